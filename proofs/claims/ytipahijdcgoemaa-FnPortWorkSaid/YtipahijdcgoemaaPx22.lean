-- Written by a program of this session over the translation (a variant of the printer, see wip/gen); Lean checks it.
import Derived.Test.YtipahijdcgoemaaPx0
import Derived.Test.YtipahijdcgoemaaPx9
import Derived.Test.YtipahijdcgoemaaPx13
import Derived.Test.YtipahijdcgoemaaPx21
namespace Go.Proofs.Ytipahijdcgoemaa.P
open Go.RowKit Go.Proofs.YtipahijdcgoemaaW.PrintWords Go.Proofs.YtipahijdcgoemaaW.PrintLast Go.Proofs.YtipahijdcgoemaaW.PrintMore
attribute [local go_sem] Go.Proofs.Ytipahijdcgoemaa.V.isSome_setCell max2_int min2_int max_two min_two max_three min_three max_four min_four
set_option linter.unusedVariables false
set_option linter.unusedSimpArgs false
/-! ### impl_PortWork: function 7 -/
mutual
def impl_PortWork.j0 : Nat → Int → Bool → Int → Int → List Int → Int → List (List Int) → Option (List Int × List Int × Bool)
 | 0, _, _, _, _, _, _, _ => none
 | k + 1, x2, x31, x397000, x397001, x397002, x403000, x403001 => if x31 = true then (some (([] : List Int), ([] : List Int), false)) else (impl_PortWork.l0 k x2 (([] : List Int)) (([] : List Int)) x403001 (x403001.length : Int) 0 x397000 x397001 x397002)
def impl_PortWork.l0 : Nat → Int → List Int → List Int → List (List Int) → Int → Int → Int → Int → List Int → Option (List Int × List Int × Bool)
 | 0, _, _, _, _, _, _, _, _, _ => none
 | k + 1, x2, x11, x12, x35, x36, x37, x397000, x397001, x397002 => if x37 < x36 then (if 0 ≤ x37 then (if x37 < (x35.length : Int) then (impl_PortWork.l1 k x2 x11 x12 false x35 x36 x37 (rd_L2 x35 x37) ((rd_L2 x35 x37).length : Int) 0 x397000 x397001 x397002) else (none)) else (none)) else ((slices_Sort_int_int.f x11).bind fun t410 => ((slices_Sort_int_int.f x12).bind fun t411 => (some (t410, t411, true))))
def impl_PortWork.l1 : Nat → Int → List Int → List Int → Bool → List (List Int) → Int → Int → List Int → Int → Int → Int → Int → List Int → Option (List Int × List Int × Bool)
 | 0, _, _, _, _, _, _, _, _, _, _, _, _, _ => none
 | k + 1, x2, x11, x12, x15, x35, x36, x37, x41, x42, x43, x397000, x397001, x397002 => if x43 < x42 then (if 0 ≤ x43 then (if x43 < (x41.length : Int) then (if 0 ≤ (wrap64 ((rd x41 x43) - 1)) then (if (wrap64 ((rd x41 x43) - 1)) < (x397002.length : Int) then (if (rd x397002 (wrap64 ((rd x41 x43) - 1))) = x2 then (if x11.length < 17592186044416 then (impl_PortWork.l1 k x2 (x11 ++ [rd x41 x43]) x12 true x35 x36 x37 x41 x42 (wrap64 (x43 + 1)) x397000 x397001 x397002) else (none)) else (if x15 = true then (if (rd x397002 (wrap64 ((rd x41 x43) - 1))) > x2 then (if x12.length < 17592186044416 then (impl_PortWork.l1 k x2 x11 (x12 ++ [rd x41 x43]) x15 x35 x36 x37 x41 x42 (wrap64 (x43 + 1)) x397000 x397001 x397002) else (none)) else (impl_PortWork.l1 k x2 x11 x12 x15 x35 x36 x37 x41 x42 (wrap64 (x43 + 1)) x397000 x397001 x397002)) else (impl_PortWork.l1 k x2 x11 x12 x15 x35 x36 x37 x41 x42 (wrap64 (x43 + 1)) x397000 x397001 x397002))) else (none)) else (none)) else (none)) else (none)) else (impl_PortWork.l0 k x2 x11 x12 x35 x36 (wrap64 (x37 + 1)) x397000 x397001 x397002)
end
def impl_PortWork.f (k : Nat) (a0_0 : Int) (a0_1 : Int) (l0_2 : List Int) (l1 : List Int) (a2 : Int) : Option (List Int × List Int × Bool) := (impl_planBay.f k a0_0 a0_1 l0_2 l1).bind fun bt397 => (if bt397.2.2 = true then ((impl_within.f a2 1 9).bind fun t403 => (impl_PortWork.j0 k a2 (!t403) a0_0 a0_1 l0_2 bt397.1 bt397.2.1)) else (impl_PortWork.j0 k a2 true a0_0 a0_1 l0_2 bt397.1 bt397.2.1))
theorem impl_PortWork.mono_l : ∀ k, (∀ y0 y1 y2 y3 y4 y5 y6, LeO (impl_PortWork.j0 k y0 y1 y2 y3 y4 y5 y6) (impl_PortWork.j0 (k + 1) y0 y1 y2 y3 y4 y5 y6)) ∧ (∀ y0 y1 y2 y3 y4 y5 y6 y7 y8, LeO (impl_PortWork.l0 k y0 y1 y2 y3 y4 y5 y6 y7 y8) (impl_PortWork.l0 (k + 1) y0 y1 y2 y3 y4 y5 y6 y7 y8)) ∧ (∀ y0 y1 y2 y3 y4 y5 y6 y7 y8 y9 y10 y11 y12, LeO (impl_PortWork.l1 k y0 y1 y2 y3 y4 y5 y6 y7 y8 y9 y10 y11 y12) (impl_PortWork.l1 (k + 1) y0 y1 y2 y3 y4 y5 y6 y7 y8 y9 y10 y11 y12))
 | 0 => ⟨fun _ _ _ _ _ _ _ r h => by simp [impl_PortWork.j0] at h, fun _ _ _ _ _ _ _ _ _ r h => by simp [impl_PortWork.l0] at h, fun _ _ _ _ _ _ _ _ _ _ _ _ _ r h => by simp [impl_PortWork.l1] at h⟩
 | k + 1 => by
  obtain ⟨ih0, ih1, ih2⟩ := impl_PortWork.mono_l k
  refine ⟨?_, ?_, ?_⟩
  ·intro y0 y1 y2 y3 y4 y5 y6
   unfold impl_PortWork.j0
   repeat' first
   | (with_reducible exact ih0 _ _ _ _ _ _ _)
   | (with_reducible exact ih1 _ _ _ _ _ _ _ _ _)
   | (with_reducible exact ih2 _ _ _ _ _ _ _ _ _ _ _ _ _)
   | (with_reducible exact impl_planBay.mono _ _ _ _ _)
   | (with_reducible exact LeO.refl _)
   | (with_reducible exact LeO.none _)
   | (with_reducible refine LeO.ite ?_ ?_)
   | (with_reducible refine LeO.bind ?_ (fun _ => ?_))
   | exact ih0 _ _ _ _ _ _ _
   | exact ih1 _ _ _ _ _ _ _ _ _
   | exact ih2 _ _ _ _ _ _ _ _ _ _ _ _ _
   | exact impl_planBay.mono _ _ _ _ _
   | exact LeO.none _
   | refine LeO.ite ?_ ?_
   | refine LeO.bind ?_ (fun _ => ?_)
  ·intro y0 y1 y2 y3 y4 y5 y6 y7 y8
   unfold impl_PortWork.l0
   repeat' first
   | (with_reducible exact ih0 _ _ _ _ _ _ _)
   | (with_reducible exact ih1 _ _ _ _ _ _ _ _ _)
   | (with_reducible exact ih2 _ _ _ _ _ _ _ _ _ _ _ _ _)
   | (with_reducible exact impl_planBay.mono _ _ _ _ _)
   | (with_reducible exact LeO.refl _)
   | (with_reducible exact LeO.none _)
   | (with_reducible refine LeO.ite ?_ ?_)
   | (with_reducible refine LeO.bind ?_ (fun _ => ?_))
   | exact ih0 _ _ _ _ _ _ _
   | exact ih1 _ _ _ _ _ _ _ _ _
   | exact ih2 _ _ _ _ _ _ _ _ _ _ _ _ _
   | exact impl_planBay.mono _ _ _ _ _
   | exact LeO.none _
   | refine LeO.ite ?_ ?_
   | refine LeO.bind ?_ (fun _ => ?_)
  ·intro y0 y1 y2 y3 y4 y5 y6 y7 y8 y9 y10 y11 y12
   unfold impl_PortWork.l1
   repeat' first
   | (with_reducible exact ih0 _ _ _ _ _ _ _)
   | (with_reducible exact ih1 _ _ _ _ _ _ _ _ _)
   | (with_reducible exact ih2 _ _ _ _ _ _ _ _ _ _ _ _ _)
   | (with_reducible exact impl_planBay.mono _ _ _ _ _)
   | (with_reducible exact LeO.refl _)
   | (with_reducible exact LeO.none _)
   | (with_reducible refine LeO.ite ?_ ?_)
   | (with_reducible refine LeO.bind ?_ (fun _ => ?_))
   | exact ih0 _ _ _ _ _ _ _
   | exact ih1 _ _ _ _ _ _ _ _ _
   | exact ih2 _ _ _ _ _ _ _ _ _ _ _ _ _
   | exact impl_planBay.mono _ _ _ _ _
   | exact LeO.none _
   | refine LeO.ite ?_ ?_
   | refine LeO.bind ?_ (fun _ => ?_)
theorem impl_PortWork.mono : ∀ a0 a1 a2 a3 a4 k, LeO (impl_PortWork.f k a0 a1 a2 a3 a4) (impl_PortWork.f (k + 1) a0 a1 a2 a3 a4) := by
 intro a0 a1 a2 a3 a4 k
 obtain ⟨ih0, ih1, ih2⟩ := impl_PortWork.mono_l k
 unfold impl_PortWork.f
 repeat' first
   | (with_reducible exact ih0 _ _ _ _ _ _ _)
   | (with_reducible exact ih1 _ _ _ _ _ _ _ _ _)
   | (with_reducible exact ih2 _ _ _ _ _ _ _ _ _ _ _ _ _)
   | (with_reducible exact impl_planBay.mono _ _ _ _ _)
   | (with_reducible exact LeO.refl _)
   | (with_reducible exact LeO.none _)
   | (with_reducible refine LeO.ite ?_ ?_)
   | (with_reducible refine LeO.bind ?_ (fun _ => ?_))
   | exact ih0 _ _ _ _ _ _ _
   | exact ih1 _ _ _ _ _ _ _ _ _
   | exact ih2 _ _ _ _ _ _ _ _ _ _ _ _ _
   | exact impl_planBay.mono _ _ _ _ _
   | exact LeO.none _
   | refine LeO.ite ?_ ?_
   | refine LeO.bind ?_ (fun _ => ?_)
set_option maxHeartbeats 8000000 in
set_option maxRecDepth 100000 in
theorem impl_PortWork.calls (k : Nat) (a0_0 : Int) (a0_1 : Int) (A0_2 : Option Addr) (c0_2 : Nat) (l0_2 : List Int) (A1 : Option Addr) (c1 : Nat) (l1 : List Int) (a2 : Int) (r1 : List Int) (r2 : List Int) (r3 : Bool) (w : World) (hr0_2 : Kd.C (Kd.int .i64) w A0_2 l0_2.length l0_2) (hc0_2 : l0_2.length ≤ c0_2) (hr1 : Kd.C (Kd.int .i64) w A1 l1.length l1) (hc1 : l1.length ≤ c1) (h : impl_PortWork.f k a0_0 a0_1 l0_2 l1 a2 = some (r1, r2, r3)) :
  Calls Try.prog 7 #[.agg #[.int .i64 a0_0, .int .i64 a0_1, .slice A0_2 l0_2.length c0_2], .slice A1 l1.length c1, .int .i64 a2] w fun e w' => ∃ v0_ v1_ : Value, e = .returned (.tuple #[v0_, v1_, .bool r3]) ∧ Kd.R (Kd.int .i64) 3 w' w.heap.size (fun k_ => some k_ ≠ (v1_ : Value).ownBlock) v0_ r1 ∧ Kd.R (Kd.int .i64) 3 w' w.heap.size (fun k_ => some k_ ≠ (v0_ : Value).ownBlock) v1_ r2 ∧ Below w.heap.size w w' := by
 have hu26 := Try.underlying26
 have hu45 := Try.underlying45
 have HR0_2 := Aside0.mk hr0_2
 have HC0_2 := Aside0.mk hc0_2
 clear hr0_2 hc0_2
 have HR1 := Aside0.mk hr1
 have HC1 := Aside0.mk hc1
 clear hr1 hc1
 have HB := Aside0.mk (Below.refl w.heap.size w)
 have H : ((impl_planBay.f k a0_0 a0_1 l0_2 l1).bind fun bt397 => (if bt397.2.2 = true then ((impl_within.f a2 1 9).bind fun t403 => (impl_PortWork.j0 k a2 (!t403) a0_0 a0_1 l0_2 bt397.1 bt397.2.1)) else (impl_PortWork.j0 k a2 true a0_0 a0_1 l0_2 bt397.1 bt397.2.1))) = some (r1, r2, r3) := h
 clear h
 replace H := Option.bind_eq_some_iff.mp H
 obtain ⟨⟨t397, t398, t401⟩, A40, H⟩ := H
 replace H : (if t401 = true then ((impl_within.f a2 1 9).bind fun t403 => (impl_PortWork.j0 k a2 (!t403) a0_0 a0_1 l0_2 t397 t398)) else (impl_PortWork.j0 k a2 true a0_0 a0_1 l0_2 t397 t398)) = some (r1, r2, r3) := H
 have A4 := Aside0.mk A40
 clear A40
 have HC5 := Aside0.mk H
 clear H
 go_enter Try.func7, Try.ntmps7
 go_upto_region 2 with (first | ((with_reducible refine gate_dst (N := 3) rfl ?_); refine box_event ?hg (N := 3) ?hd (cs := #[.int .i64 a0_0, .int .i64 a0_1, .slice A0_2 l0_2.length c0_2]) (t := 26) ?hr ?_; (case hd => rfl); (case hg => rfl); (case hr => first | (go_simp; done) | (go_simp; rfl)); intro gb396 hg w6 hbox hb; have n0_ := Aside0.mk (below_step (bel HB) hb); have n1_ := Aside0.mk (hbox); have n2_ := Aside0.mk ((by rw [hg]; exact (below_size (bel HB)) : w.heap.size ≤ gb396)); have n3_ := Aside0.mk ((by rw [hg]; exact (below_size (bel HB)) : w.heap.size ≤ gb396)); clear HB; have HB := n0_; have BK396 := n1_; have GW396 := n2_; have GE396 := n3_; clear n0_ n1_ n2_ n3_; clear hb hbox hg; have hcz7_0 : w6.cell? ⟨gb396, 0, none⟩ = some (.int .i64 a0_0) := (blk_cell BK396.out 0).trans rfl; have hcz7_1 : w6.cell? ⟨gb396, 1, none⟩ = some (.int .i64 a0_1) := (blk_cell BK396.out 1).trans rfl; have hcz7_2 : w6.cell? ⟨gb396, 2, none⟩ = some (.slice A0_2 l0_2.length c0_2) := (blk_cell BK396.out 2).trans rfl; have hfz7_0 := blk_frozen BK396.out 0; have hfz7_1 := blk_frozen BK396.out 1; have hfz7_2 := blk_frozen BK396.out 2) | ((with_reducible refine gate_callee (f := 26) rfl ?_); refine goesL_ (some 22) rfl rfl Try.func26 (by kernel_rfl) rfl #[.agg #[.int .i64 a0_0, .int .i64 a0_1, .slice A0_2 l0_2.length c0_2], .slice A1 l1.length c1] rfl gmp ?_; (with_reducible refine (impl_planBay.calls k a0_0 a0_1 _ _ l0_2 _ _ l1 t397 t398 t401 _ ?side1 ?side2 ?side3 ?side4 A4.out).mono ?_); (case side1 => exact cdl (Kd.C_below HR0_2.out HB.out)); (case side2 => exact HC0_2.out); (case side3 => exact cdl (Kd.C_below HR1.out HB.out)); (case side4 => exact HC1.out); rintro e w8 ⟨v399, rfl, ho0, hb⟩; refine ⟨_, rfl, ?_⟩; have n0_ := Aside0.mk (Kd.S_lower ho0 (below_size (bel1 HB GE396))); have n1_ := Aside0.mk (blk_below (g := gb396) (o := .cells #[.int .i64 a0_0, .int .i64 a0_1, .slice A0_2 l0_2.length c0_2] 26 (0, 0)) (bkl BK396) hb); have n2_ := Aside0.mk (below_step (bel1 HB GE396) hb); clear BK396; clear HB; have HO400 := n0_; have BK396 := n1_; have HB := n2_; clear n0_ n1_ n2_; (try clear hb); (try clear hb2); (try clear hk); (try clear hi); (try clear ho0)) | ((with_reducible refine gate_dst (N := 9) rfl ?_); refine box_event ?hg (N := 9) ?hd (cs := #[.int .i64 0, .slice none 0 0]) (t := 45) ?hr ?_; (case hd => rfl); (case hg => rfl); (case hr => first | (go_simp; done) | (go_simp; rfl)); intro gb402 hg w9 hbox hb; have n0_ := Aside0.mk (Kd.S_below (sdl HO400) hb); have n1_ := Aside0.mk (blk_below (g := gb396) (o := .cells #[.int .i64 a0_0, .int .i64 a0_1, .slice A0_2 l0_2.length c0_2] 26 (0, 0)) (bkl BK396) hb); have n2_ := Aside0.mk (below_step (bel1 HB GE396) hb); have n3_ := Aside0.mk (hbox); have n4_ := Aside0.mk ((by rw [hg]; exact (below_size (bel1 HB GE396)) : w.heap.size ≤ gb402)); have n5_ := Aside0.mk ((by rw [hg]; exact (below_size (bel1 HB GE396)) : w.heap.size ≤ gb402)); have n6_ := Aside0.mk ((by rw [hg]; exact Nat.ne_of_lt (blk_lt (g := gb396) (o := .cells #[.int .i64 a0_0, .int .i64 a0_1, .slice A0_2 l0_2.length c0_2] 26 (0, 0)) (bkl BK396)) : gb396 ≠ gb402)); have n7_ := Aside0.mk ((by rw [hg]; exact Nat.ne_of_gt (blk_lt (g := gb396) (o := .cells #[.int .i64 a0_0, .int .i64 a0_1, .slice A0_2 l0_2.length c0_2] 26 (0, 0)) (bkl BK396)) : gb402 ≠ gb396)); clear HO400; clear BK396; clear HB; have HO400 := n0_; have BK396 := n1_; have HB := n2_; have BK402 := n3_; have GW402 := n4_; have GE402 := n5_; have NB396_402 := n6_; have NB402_396 := n7_; clear n0_ n1_ n2_ n3_ n4_ n5_ n6_ n7_; clear hb hbox hg; have hnb10 := NB402_396.out; have hnc10 := NB396_402.out; have hcz11_0 : w9.cell? ⟨gb402, 0, none⟩ = some (.int .i64 0) := (blk_cell BK402.out 0).trans rfl; have hcz11_1 : w9.cell? ⟨gb402, 1, none⟩ = some (.slice none 0 0) := (blk_cell BK402.out 1).trans rfl; have hfz11_0 := blk_frozen BK402.out 0; have hfz11_1 := blk_frozen BK402.out 1; obtain ⟨Ao12, co12, eo12⟩ := Kd.S_slice HO400.out; subst eo12))
 (try simp only [Act.put, List.setIfInBounds_toArray, List.set_cons_zero, List.set_cons_succ])
 go_cut [31] (fun v31 wc => ∃ (kq : Nat) (x31_4 : Bool), v31 = .bool x31_4 ∧ Aside0 (impl_PortWork.j0 kq a2 x31_4 a0_0 a0_1 l0_2 t397 t398 = some (r1, r2, r3)) ∧ Aside0 (kq ≤ k) ∧ Aside0 (Kd.S (Kd.slice 3 (Kd.int .i64)) 24 wc w.heap.size (fun _ => True) (.slice Ao12 t398.length co12) t398) ∧ Aside0 (wc.heap[gb396]? = some (.cells #[.int .i64 a0_0, .int .i64 a0_1, (.slice A0_2 l0_2.length c0_2)] 26 (0, 0))) ∧ Aside0 (wc.heap[gb402]? = some (.cells #[.int .i64 t397, (.slice Ao12 t398.length co12)] 45 (0, 0))) ∧ Aside0 (Below w.heap.size w wc))
 case first =>
  have H := HC5.out
  clear HC5
  by_cases c13 : t401 = true
  rotate_left
  ·replace c13 := Bool.eq_false_iff.mpr c13
   subst c13
   have H1 : (impl_PortWork.j0 k a2 true a0_0 a0_1 l0_2 t397 t398) = some (r1, r2, r3) := by rw [if_neg (show ¬ (false = true) by decide)] at H; exact H
   clear H
   have H := H1
   clear H1
   have H' := Aside0.mk H
   clear H
   go_wp2
   go_meet
   case rel => exact ⟨_, (true), (by first | rfl | (simp; done) | (simp [*]; done)), H', ⟨by first | omega | exact Nat.le_refl _⟩, ⟨by (with_reducible repeat (first | apply Kd.S_alloc | apply Kd.S_drewN | apply Kd.S_drew)); exact Kd.S_mono (Kd.S_far (p := ⟨gb402, 1, none⟩) (Kd.S_far (p := ⟨gb402, 0, none⟩) (Kd.S_types HO400.out BK402.out (by decide)) (fun _ hk => hk.2) (.int .i64 t397)) (fun _ hk => hk.2) (.slice Ao12 t398.length co12)) (fun _ hk => trivial)⟩, ⟨by (with_reducible repeat (first | refine blk_drewN ?_ _ | refine blk_drew ?_ | refine blk_alloc ?_ _)); refine blk_far ?_ NB396_402.out _; (with_reducible repeat (first | refine blk_drewN ?_ _ | refine blk_drew ?_ | refine blk_alloc ?_ _)); refine blk_far ?_ NB396_402.out _; (with_reducible repeat (first | refine blk_drewN ?_ _ | refine blk_drew ?_ | refine blk_alloc ?_ _)); exact BK396.out⟩, ⟨by (with_reducible repeat (first | refine blk_drewN ?_ _ | refine blk_drew ?_ | refine blk_alloc ?_ _)); refine blk_put (cs := #[.int .i64 t397, .slice none 0 0]) ?_ 1 _ rfl; (with_reducible repeat (first | refine blk_drewN ?_ _ | refine blk_drew ?_ | refine blk_alloc ?_ _)); refine blk_put (cs := #[.int .i64 0, .slice none 0 0]) ?_ 0 _ rfl; (with_reducible repeat (first | refine blk_drewN ?_ _ | refine blk_drew ?_ | refine blk_alloc ?_ _)); exact BK402.out⟩, ⟨bel2 HB GE396 GE402⟩⟩
  subst c13
  have H1 : ((impl_within.f a2 1 9).bind fun t403 => (impl_PortWork.j0 k a2 (!t403) a0_0 a0_1 l0_2 t397 t398)) = some (r1, r2, r3) := by rw [if_pos rfl] at H; exact H
  clear H
  have H := H1
  clear H1
  replace H := Option.bind_eq_some_iff.mp H
  obtain ⟨t403, A140, H⟩ := H
  replace H : (impl_PortWork.j0 k a2 (!t403) a0_0 a0_1 l0_2 t397 t398) = some (r1, r2, r3) := H
  have A14 := Aside0.mk A140
  clear A140
  have H' := Aside0.mk H
  clear H
  go_wp2_with (first | (go_at_call 27; (with_reducible refine (impl_within.calls a2 1 9 t403 _ A14.out).mono ?_); rintro e w' ⟨rfl, ⟨nd, rfl⟩⟩))
  go_meet
  case rel => exact ⟨_, (!t403), (by first | rfl | (simp; done) | (simp [*]; done)), H', ⟨by first | omega | exact Nat.le_refl _⟩, ⟨by (with_reducible repeat (first | apply Kd.S_alloc | apply Kd.S_drewN | apply Kd.S_drew)); exact Kd.S_mono (Kd.S_far (p := ⟨gb402, 1, none⟩) (Kd.S_far (p := ⟨gb402, 0, none⟩) (Kd.S_types HO400.out BK402.out (by decide)) (fun _ hk => hk.2) (.int .i64 t397)) (fun _ hk => hk.2) (.slice Ao12 t398.length co12)) (fun _ hk => trivial)⟩, ⟨by (with_reducible repeat (first | refine blk_drewN ?_ _ | refine blk_drew ?_ | refine blk_alloc ?_ _)); refine blk_far ?_ NB396_402.out _; (with_reducible repeat (first | refine blk_drewN ?_ _ | refine blk_drew ?_ | refine blk_alloc ?_ _)); refine blk_far ?_ NB396_402.out _; (with_reducible repeat (first | refine blk_drewN ?_ _ | refine blk_drew ?_ | refine blk_alloc ?_ _)); exact BK396.out⟩, ⟨by (with_reducible repeat (first | refine blk_drewN ?_ _ | refine blk_drew ?_ | refine blk_alloc ?_ _)); refine blk_put (cs := #[.int .i64 t397, .slice none 0 0]) ?_ 1 _ rfl; (with_reducible repeat (first | refine blk_drewN ?_ _ | refine blk_drew ?_ | refine blk_alloc ?_ _)); refine blk_put (cs := #[.int .i64 0, .slice none 0 0]) ?_ 0 _ rfl; (with_reducible repeat (first | refine blk_drewN ?_ _ | refine blk_drew ?_ | refine blk_alloc ?_ _)); exact BK402.out⟩, ⟨bel2 HB GE396 GE402⟩⟩
 clear HC5
 try clear c1
 try clear c2
 try clear p2
 try clear c7
 try clear c10
 try clear c13
 try clear hcz11_0
 try clear hcz11_1
 try clear hcz7_0
 try clear hcz7_1
 try clear hcz7_2
 try clear hfz11_0
 try clear hfz11_1
 try clear hfz7_0
 try clear hfz7_1
 try clear hfz7_2
 obtain ⟨kq, x31_4, rfl, HA, HJ4, HO_403001, BK396, BK402, HB⟩ := hcut
 cases kq with
 | zero => exact absurd HA.out (by simp [impl_PortWork.j0])
 | succ kj4 =>
  have H := HA.out
  clear HA
  simp only [impl_PortWork.j0] at H
  by_cases c15 : x31_4 = true
  ·subst c15
   have H1 : (some (([] : List Int), ([] : List Int), false)) = some (r1, r2, r3) := by rw [if_pos rfl] at H; exact H
   clear H
   have H := H1
   clear H1
   simp only [Option.some.injEq, Prod.mk.injEq] at H
   obtain ⟨rfl, rfl, rfl⟩ := H
   go_wp2
   go_ret3
   exact ⟨_, _, by first | rfl | (simp [errW_none, errW_some] <;> rfl) | (simp [*, errW_none, errW_some] <;> rfl), by first | exact Kd.R_nil _ _ _ _ _ | exact Kd.N_nil _ _ _ _ _ | exact Kd.V_nil _ _ _ _ _ | exact Kd.Q_nil _ _ _ _ _ | exact Kd.S_nil _ _ _ _ _, by first | exact Kd.R_nil _ _ _ _ _ | exact Kd.N_nil _ _ _ _ _ | exact Kd.V_nil _ _ _ _ _ | exact Kd.Q_nil _ _ _ _ _ | exact Kd.S_nil _ _ _ _ _, bel2 HB GE396 GE402⟩
  replace c15 := Bool.eq_false_iff.mpr c15
  subst c15
  have H1 : (impl_PortWork.l0 kj4 a2 (([] : List Int)) (([] : List Int)) t398 (t398.length : Int) 0 a0_0 a0_1 l0_2) = some (r1, r2, r3) := by rw [if_neg (show ¬ (false = true) by decide)] at H; exact H
  clear H
  have H := H1
  clear H1
  obtain ⟨y404, hy404⟩ : ∃ y_ : List Int, y_ = (([] : List Int)) := ⟨_, rfl⟩
  replace H : (impl_PortWork.l0 kj4 a2 y404 (([] : List Int)) t398 (t398.length : Int) 0 a0_0 a0_1 l0_2) = some (r1, r2, r3) := by first | (rw [hy404]; with_reducible exact H) | (have H2_ := (Option.bind_some _ _).symm.trans H; rw [hy404]; with_reducible exact H2_) | (have H2_ := (Option.bind_some _ _).symm.trans H; with_reducible exact H2_) | with_reducible exact H | (rw [hy404]; exact H) | exact H
  have Ny404 := Aside0.mk hy404
  clear hy404
  obtain ⟨y407, hy407⟩ : ∃ y_ : List Int, y_ = (([] : List Int)) := ⟨_, rfl⟩
  replace H : (impl_PortWork.l0 kj4 a2 y404 y407 t398 (t398.length : Int) 0 a0_0 a0_1 l0_2) = some (r1, r2, r3) := by first | (rw [hy407]; with_reducible exact H) | (have H2_ := (Option.bind_some _ _).symm.trans H; rw [hy407]; with_reducible exact H2_) | (have H2_ := (Option.bind_some _ _).symm.trans H; with_reducible exact H2_) | with_reducible exact H | (rw [hy407]; exact H) | exact H
  have Ny407 := Aside0.mk hy407
  clear hy407
  have H' := Aside0.mk H
  clear H
  go_wp2_with (first | ((with_reducible refine gate_dst (N := 32) rfl ?_); refine Kd.R_lit (Kd.int .i64) _ 3 ?hg (N := 32) ?hd (xs := ([] : List Int)) (inner := []) (ok := fun _ => True) (okp := fun _ => True) ?hr ?hp (fun _ hk => hk) trivial (Below.refl _ _) (Nat.le_refl _) (by simp) ?_; (case hd => rfl); (case hg => rfl); (case hr => first | (go_simp; done) | (go_simp; rfl)); (case hp => exact (Reps.none _ _)); intro v405 w16 ho17 hb hg_ hnew_; clear hg_ hnew_; (first | rw [← Ny404.out] at ho17 | (simp only [Int.reduceToNat] at ho17; rw [← Ny404.out] at ho17)); have n0_ := Aside0.mk (Kd.S_elder' (sdl HO_403001) (Kd.R_base ho17) hb); have n1_ := Aside0.mk (Kd.R_lower ho17 (below_size (bel2 HB GE396 GE402))); have n2_ := Aside0.mk (blk_below (g := gb396) (o := .cells #[.int .i64 a0_0, .int .i64 a0_1, .slice A0_2 l0_2.length c0_2] 26 (0, 0)) (bkl BK396) hb); have n3_ := Aside0.mk (blk_below (g := gb402) (o := .cells #[.int .i64 t397, .slice Ao12 t398.length co12] 45 (0, 0)) (bkl BK402) hb); have n4_ := Aside0.mk (below_step (bel2 HB GE396 GE402) hb); clear HO_403001; clear BK396; clear BK402; clear HB; have HO_403001 := n0_; have HO406 := n1_; have BK396 := n2_; have BK402 := n3_; have HB := n4_; clear n0_ n1_ n2_ n3_ n4_; clear hb ho17) | ((with_reducible refine gate_dst (N := 33) rfl ?_); refine Kd.R_lit (Kd.int .i64) _ 3 ?hg (N := 33) ?hd (xs := ([] : List Int)) (inner := []) (ok := fun _ => True) (okp := fun _ => True) ?hr ?hp (fun _ hk => hk) trivial (Below.refl _ _) (Nat.le_refl _) (by simp) ?_; (case hd => rfl); (case hg => rfl); (case hr => first | (go_simp; done) | (go_simp; rfl)); (case hp => exact (Reps.none _ _)); intro v408 w18 ho19 hb hg_ hnew_; clear hg_ hnew_; (first | rw [← Ny407.out] at ho19 | (simp only [Int.reduceToNat] at ho19; rw [← Ny407.out] at ho19)); have n0_ := Aside0.mk (Kd.S_elder' (sdl HO_403001) (Kd.R_base ho19) hb); have n1_ := Aside0.mk (Kd.R_elder' (rdl HO406) (Kd.R_base ho19) hb); have n2_ := Aside0.mk (Kd.R_lower (Kd.R_new' ho19 (Kd.R_lt (rdl HO406))) (below_size (bel2 HB GE396 GE402))); have n3_ := Aside0.mk (blk_below (g := gb396) (o := .cells #[.int .i64 a0_0, .int .i64 a0_1, .slice A0_2 l0_2.length c0_2] 26 (0, 0)) (bkl BK396) hb); have n4_ := Aside0.mk (blk_below (g := gb402) (o := .cells #[.int .i64 t397, .slice Ao12 t398.length co12] 45 (0, 0)) (bkl BK402) hb); have n5_ := Aside0.mk (below_step (bel2 HB GE396 GE402) hb); clear HO_403001; clear HO406; clear BK396; clear BK402; clear HB; have HO_403001 := n0_; have HO406 := n1_; have HO409 := n2_; have BK396 := n3_; have BK402 := n4_; have HB := n5_; clear n0_ n1_ n2_ n3_ n4_ n5_; clear hb ho19; have hnb20 := NB402_396.out; have hnc20 := NB396_402.out; have hcz21_0 : w18.cell? ⟨gb402, 0, none⟩ = some (.int .i64 t397) := (blk_cell BK402.out 0).trans rfl; have hcz21_1 : w18.cell? ⟨gb402, 1, none⟩ = some (.slice Ao12 t398.length co12) := (blk_cell BK402.out 1).trans rfl; have hfz21_0 := blk_frozen BK402.out 0; have hfz21_1 := blk_frozen BK402.out 1))
  go_loopg [11, 12, 37] kj4 (fun kq v11 v12 v37 w' => ∃ (x11_2 : List Int) (x12_2 : List Int) (x37_2 : Int), v37 = .int .i64 x37_2 ∧ Aside0 (impl_PortWork.l0 kq a2 x11_2 x12_2 t398 (t398.length : Int) x37_2 a0_0 a0_1 l0_2 = some (r1, r2, r3)) ∧ Aside0 (kq ≤ kj4) ∧ Aside0 (Kd.R (Kd.int .i64) 3 w' w.heap.size (fun k_ => some k_ ≠ (v12 : Value).ownBlock) v11 x11_2) ∧ Aside0 (Kd.R (Kd.int .i64) 3 w' w.heap.size (fun k_ => some k_ ≠ (v11 : Value).ownBlock) v12 x12_2) ∧ Aside0 (Kd.S (Kd.slice 3 (Kd.int .i64)) 24 w' w.heap.size (fun k_ => some k_ ≠ (v11 : Value).ownBlock ∧ some k_ ≠ (v12 : Value).ownBlock) (.slice Ao12 t398.length co12) t398) ∧ Aside0 (Kd.S (Kd.slice 3 (Kd.int .i64)) 24 w' w.heap.size (fun k_ => some k_ ≠ (v11 : Value).ownBlock ∧ some k_ ≠ (v12 : Value).ownBlock) (.slice Ao12 t398.length co12) t398) ∧ Aside0 (w'.heap[gb396]? = some (.cells #[.int .i64 a0_0, .int .i64 a0_1, (.slice A0_2 l0_2.length c0_2)] 26 (0, 0))) ∧ Aside0 (w'.heap[gb402]? = some (.cells #[.int .i64 t397, (.slice Ao12 t398.length co12)] 45 (0, 0))) ∧ Aside0 (Below w.heap.size w w'))
  case atStart => exact ⟨(y404), (y407), (0), (by first | rfl | (simp; done) | (simp [*]; done)), H', ⟨Nat.le_refl _⟩, ⟨by (with_reducible repeat (first | apply Kd.R_alloc | apply Kd.R_drewN | apply Kd.R_drew)); exact Kd.R_mono HO406.out (fun _ hk => hk.2)⟩, ⟨by (with_reducible repeat (first | apply Kd.R_alloc | apply Kd.R_drewN | apply Kd.R_drew)); exact Kd.R_mono HO409.out (fun _ hk => hk.2)⟩, ⟨by (with_reducible repeat (first | apply Kd.S_alloc | apply Kd.S_drewN | apply Kd.S_drew)); exact Kd.S_mono HO_403001.out (fun _ hk => ⟨hk.1.2, hk.2⟩)⟩, ⟨by (with_reducible repeat (first | apply Kd.S_alloc | apply Kd.S_drewN | apply Kd.S_drew)); exact Kd.S_mono HO_403001.out (fun _ hk => ⟨hk.1.2, hk.2⟩)⟩, ⟨bkl BK396⟩, ⟨bkl BK402⟩, ⟨bel2 HB GE396 GE402⟩⟩
  clear H'
  try clear c1
  try clear c2
  try clear p2
  try clear c7
  try clear c10
  try clear c13
  try clear c15
  try clear c20
  try clear hcz11_0
  try clear hcz11_1
  try clear hcz21_0
  try clear hcz21_1
  try clear hcz7_0
  try clear hcz7_1
  try clear hcz7_2
  try clear hfz11_0
  try clear hfz11_1
  try clear hfz21_0
  try clear hfz21_1
  try clear hfz7_0
  try clear hfz7_1
  try clear hfz7_2
  try clear p2
  obtain ⟨x11_2, x12_2, x37_2, rfl, HA, HK2, HO_11, HO_12, HO_35, HO_403001, BK396, BK402, HB⟩ := hrel
  cases gk with
  | zero => exact absurd HA.out (by simp [impl_PortWork.l0])
  | succ k2 =>
   have H := HA.out
   clear HA
   simp only [impl_PortWork.l0] at H
   by_cases c22 : x37_2 < (t398.length : Int)
   rotate_left
   ·rw [if_neg c22] at H
    have c22b0 : decide (x37_2 < (t398.length : Int)) = false := decide_eq_false c22
    clear c22
    replace H := Option.bind_eq_some_iff.mp H
    obtain ⟨t410, A460, H⟩ := H
    replace H : ((slices_Sort_int_int.f x12_2).bind fun t411 => (some (t410, t411, true))) = some (r1, r2, r3) := H
    have A46 := Aside0.mk A460
    clear A460
    replace H := Option.bind_eq_some_iff.mp H
    obtain ⟨t411, A470, H⟩ := H
    replace H : (some (t410, t411, true)) = some (r1, r2, r3) := H
    have A47 := Aside0.mk A470
    clear A470
    simp only [Option.some.injEq, Prod.mk.injEq] at H
    obtain ⟨rfl, rfl, rfl⟩ := H
    obtain ⟨Ao48, co48, eo48⟩ := Kd.R_slice HO_11.out
    subst eo48
    go_wp2_with (first | ((with_reducible refine gate_callee (f := 28) rfl ?_); refine goesL_ (some 75) rfl rfl Try.func28 (by kernel_rfl) rfl #[.slice Ao48 x11_2.length co48] rfl gmp ?_; (with_reducible refine (slices_Sort_int_int.calls (fun k_ => some k_ = (.slice Ao48 x11_2.length co48 : Value).ownBlock) (.slice Ao48 x11_2.length co48) x11_2 t410 w _ ?side1 ?side2 A46.out).mono ?_); (case side1 => repeat (first | (with_reducible first | exact HB.out | apply below_alloc | apply pw_below_drewN | apply below_drew1 | refine below_set ?_ GE396.out | refine below_set ?_ GE402.out) | exact HB.out)); (case side2 => exact Kd.R_tight rfl HO_11.out); rintro e w49 ⟨rfl, hy0, hb, hkp⟩; refine ⟨_, rfl, ?_⟩; have n0_ := Aside0.mk (Kd.R_reok rfl hy0 (fun k_ e_ => HO_11.out.1 k_ e_)); have n1_ := Aside0.mk (Kd.R_mono (ok' := fun k_ => some k_ ≠ (.slice Ao48 x11_2.length co48 : Value).ownBlock) (Kd.R_keptB (HO_12.out) hkp (fun k_ hk_ hs_ => (hk_) hs_)) (fun k_ hk_ => hk_.1)); have n2_ := Aside0.mk (Kd.S_mono (ok' := fun k_ => some k_ ≠ (.slice Ao48 x11_2.length co48 : Value).ownBlock ∧ some k_ ≠ (u12 : Value).ownBlock) (Kd.S_keptB (HO_35.out) hkp (fun k_ hk_ hs_ => (hk_.1) hs_)) (fun k_ hk_ => ⟨hk_.1.1, hk_.1.2⟩)); have n3_ := Aside0.mk (Kd.S_mono (ok' := fun k_ => some k_ ≠ (.slice Ao48 x11_2.length co48 : Value).ownBlock ∧ some k_ ≠ (u12 : Value).ownBlock) (Kd.S_keptB (HO_403001.out) hkp (fun k_ hk_ hs_ => (hk_.1) hs_)) (fun k_ hk_ => ⟨hk_.1.1, hk_.1.2⟩)); have n4_ := Aside0.mk (blk_kept (bkl BK396) hkp (fun hs_ => (fun e_ => (Kd.R_ne HO_11.out BK396.out (by decide)) e_) hs_)); have n5_ := Aside0.mk (blk_kept (bkl BK402) hkp (fun hs_ => (fun e_ => (Kd.R_ne HO_11.out BK402.out (by decide)) e_) hs_)); have n6_ := Aside0.mk (hb); clear HO_11; clear HO_12; clear HO_35; clear HO_403001; clear BK396; clear BK402; clear HB; have HO_11 := n0_; have HO_12 := n1_; have HO_35 := n2_; have HO_403001 := n3_; have BK396 := n4_; have BK402 := n5_; have HB := n6_; clear n0_ n1_ n2_ n3_ n4_ n5_ n6_; (try clear hb); (try clear hkp); (try clear hy0); obtain ⟨Ao50, co50, eo50⟩ := Kd.R_slice HO_12.out; subst eo50) | ((with_reducible refine gate_callee (f := 28) rfl ?_); refine goesL_ (some 77) rfl rfl Try.func28 (by kernel_rfl) rfl #[.slice Ao50 x12_2.length co50] rfl gmp ?_; (with_reducible refine (slices_Sort_int_int.calls (fun k_ => some k_ = (.slice Ao50 x12_2.length co50 : Value).ownBlock) (.slice Ao50 x12_2.length co50) x12_2 t411 w _ ?side1 ?side2 A47.out).mono ?_); (case side1 => repeat (first | (with_reducible first | exact HB.out | apply below_alloc | apply pw_below_drewN | apply below_drew1 | refine below_set ?_ GE396.out | refine below_set ?_ GE402.out) | exact HB.out)); (case side2 => exact Kd.R_tight rfl HO_12.out); rintro e w51 ⟨rfl, hy0, hb, hkp⟩; refine ⟨_, rfl, ?_⟩; have n0_ := Aside0.mk (Kd.R_mono (ok' := fun k_ => some k_ ≠ (.slice Ao50 x12_2.length co50 : Value).ownBlock) (Kd.R_keptB (HO_11.out) hkp (fun k_ hk_ hs_ => (hk_) hs_)) (fun k_ hk_ => hk_.1)); have n1_ := Aside0.mk (Kd.R_reok rfl hy0 (fun k_ e_ => HO_12.out.1 k_ e_)); have n2_ := Aside0.mk (Kd.S_mono (ok' := fun k_ => some k_ ≠ (.slice Ao48 x11_2.length co48 : Value).ownBlock ∧ some k_ ≠ (.slice Ao50 x12_2.length co50 : Value).ownBlock) (Kd.S_keptB (HO_35.out) hkp (fun k_ hk_ hs_ => (hk_.2) hs_)) (fun k_ hk_ => ⟨hk_.1.1, hk_.1.2⟩)); have n3_ := Aside0.mk (Kd.S_mono (ok' := fun k_ => some k_ ≠ (.slice Ao48 x11_2.length co48 : Value).ownBlock ∧ some k_ ≠ (.slice Ao50 x12_2.length co50 : Value).ownBlock) (Kd.S_keptB (HO_403001.out) hkp (fun k_ hk_ hs_ => (hk_.2) hs_)) (fun k_ hk_ => ⟨hk_.1.1, hk_.1.2⟩)); have n4_ := Aside0.mk (blk_kept (bkl BK396) hkp (fun hs_ => (fun e_ => (Kd.R_ne HO_12.out BK396.out (by decide)) e_) hs_)); have n5_ := Aside0.mk (blk_kept (bkl BK402) hkp (fun hs_ => (fun e_ => (Kd.R_ne HO_12.out BK402.out (by decide)) e_) hs_)); have n6_ := Aside0.mk (hb); clear HO_11; clear HO_12; clear HO_35; clear HO_403001; clear BK396; clear BK402; clear HB; have HO_11 := n0_; have HO_12 := n1_; have HO_35 := n2_; have HO_403001 := n3_; have BK396 := n4_; have BK402 := n5_; have HB := n6_; clear n0_ n1_ n2_ n3_ n4_ n5_ n6_; (try clear hb); (try clear hkp); (try clear hy0)))
    go_ret3
    exact ⟨_, _, by first | rfl | (simp [errW_none, errW_some] <;> rfl) | (simp [*, errW_none, errW_some] <;> rfl), rdl HO_11, rdl HO_12, bel2 HB GE396 GE402⟩
   rw [if_pos c22] at H
   have c22b0 : decide (x37_2 < (t398.length : Int)) = true := decide_eq_true c22
   clear c22
   by_cases c23 : 0 ≤ x37_2
   rotate_left
   ·rw [if_neg c23] at H
    exact absurd H (by simp)
   rw [if_pos c23] at H
   have c23b0 : decide (0 ≤ x37_2) = true := decide_eq_true c23
   clear c23
   by_cases c24 : x37_2 < (t398.length : Int)
   rotate_left
   ·rw [if_neg c24] at H
    exact absurd H (by simp)
   rw [if_pos c24] at H
   have c24b0 : decide (x37_2 < (t398.length : Int)) = true := decide_eq_true c24
   clear c24
   have H' := Aside0.mk H
   clear H
   have p412 : 0 ≤ (x37_2 : Int) := oda
   have q412 : x37_2 < (t398.length : Int) := oda
   obtain ⟨ad412, A412_0, c412_0, e412, hx412_0, hl412_0, hi412_0⟩ := at_L2 (Kd.S_reads' HO_35.out).2.2 x37_2 p412 q412
   cases e412
   obtain ⟨ce412, hce412, hMe412, hcc412⟩ := Kd.S_get HO_35.out [] x37_2 p412 (by first | exact q412 | exact oda | (have e_ := (Kd.S_reads' HO_35.out).1; omega))
   obtain ⟨ve412_0, rfl, ge412_0⟩ := hMe412
   have hv412_0 := hcc412 0 _ rfl
   rw [Nat.add_zero, show ((Kd.slice 3 (Kd.int .i64))).sz = 1 from rfl, Nat.mul_one] at hv412_0
   replace hv412_0 := Option.some.inj (hv412_0.symm.trans hx412_0)
   rw [hv412_0] at ge412_0
   have HL412_0 := Aside0.mk (show Kd.R (Kd.int .i64) 3 _ _ _ _ (rd_L2 t398 x37_2) from ge412_0)
   clear hv412_0 ge412_0 hcc412 hce412
   have HR412_0 := Aside0.mk hi412_0
   have HC412_0 := Aside0.mk hl412_0
   clear hi412_0 hl412_0
   replace p412 := eq_true p412
   replace q412 := eq_true q412
   go_wp2
   go_loopg [11, 12, 15, 43] k2 (fun kq v11 v12 v15 v43 w' => ∃ (x11_3 : List Int) (x12_3 : List Int) (x15_3 : Bool) (x43_3 : Int), v15 = .bool x15_3 ∧ v43 = .int .i64 x43_3 ∧ Aside0 (impl_PortWork.l1 kq a2 x11_3 x12_3 x15_3 t398 (t398.length : Int) x37_2 (rd_L2 t398 x37_2) ((rd_L2 t398 x37_2).length : Int) x43_3 a0_0 a0_1 l0_2 = some (r1, r2, r3)) ∧ Aside0 (kq ≤ k2) ∧ Aside0 (Kd.R (Kd.int .i64) 3 w' w.heap.size (fun k_ => some k_ ≠ (v12 : Value).ownBlock) v11 x11_3) ∧ Aside0 (Kd.R (Kd.int .i64) 3 w' w.heap.size (fun k_ => some k_ ≠ (v11 : Value).ownBlock) v12 x12_3) ∧ Aside0 (Kd.S (Kd.slice 3 (Kd.int .i64)) 24 w' w.heap.size (fun k_ => some k_ ≠ (v11 : Value).ownBlock ∧ some k_ ≠ (v12 : Value).ownBlock) (.slice (some ad412) t398.length co12) t398) ∧ Aside0 (Kd.R (Kd.int .i64) 3 w' w.heap.size (fun k_ => some k_ ≠ (v11 : Value).ownBlock ∧ some k_ ≠ (v12 : Value).ownBlock) (.slice A412_0 (rd_L2 t398 x37_2).length c412_0) (rd_L2 t398 x37_2)) ∧ Aside0 (w'.heap[gb396]? = some (.cells #[.int .i64 a0_0, .int .i64 a0_1, (.slice A0_2 l0_2.length c0_2)] 26 (0, 0))) ∧ Aside0 (w'.heap[gb402]? = some (.cells #[.int .i64 t397, (.slice (some ad412) t398.length co12)] 45 (0, 0))) ∧ Aside0 (Below w.heap.size w w'))
   case atStart => exact ⟨(x11_2), (x12_2), (false), (0), (by first | rfl | (simp; done) | (simp [*]; done)), (by first | rfl | (simp; done) | (simp [*]; done)), H', ⟨Nat.le_refl _⟩, ⟨rdl HO_11⟩, ⟨rdl HO_12⟩, ⟨sdl HO_35⟩, ⟨by (with_reducible repeat (first | apply Kd.R_alloc | apply Kd.R_drewN | apply Kd.R_drew)); exact Kd.R_mono HL412_0.out (fun _ hk => by first | exact hk.1 | exact ⟨hk.1.1, hk.2⟩)⟩, ⟨bkl BK396⟩, ⟨bkl BK402⟩, ⟨bel2 HB GE396 GE402⟩⟩
   clear H'
   try clear c1
   try clear c2
   try clear p2
   try clear c4
   try clear p4
   try clear q4
   try clear hx4
   try clear c7
   try clear c10
   try clear c13
   try clear c15
   try clear c20
   try clear c22
   try clear c22b0
   try clear c23
   try clear c23b0
   try clear c24
   try clear c24b0
   try clear hcz11_0
   try clear hcz11_1
   try clear hcz21_0
   try clear hcz21_1
   try clear hcz7_0
   try clear hcz7_1
   try clear hcz7_2
   try clear hfz11_0
   try clear hfz11_1
   try clear hfz21_0
   try clear hfz21_1
   try clear hfz7_0
   try clear hfz7_1
   try clear hfz7_2
   try clear hx412_0
   try clear p2
   try clear p412
   try clear q412
   obtain ⟨x11_3, x12_3, x15_3, x43_3, rfl, rfl, HA, HK3, HO_11, HO_12, HO_35, HO_403001, BK396, BK402, HB⟩ := hrel
   cases gk with
   | zero => exact absurd HA.out (by simp [impl_PortWork.l1])
   | succ k3 =>
    have H := HA.out
    clear HA
    simp only [impl_PortWork.l1] at H
    by_cases c25 : x43_3 < ((rd_L2 t398 x37_2).length : Int)
    rotate_left
    ·rw [if_neg c25] at H
     clear HO_403001
     have HO_403001 := HO_35
     have c25b0 : decide (x43_3 < ((rd_L2 t398 x37_2).length : Int)) = false := decide_eq_false c25
     clear c25
     have H' := Aside0.mk H
     clear H
     go_wp2
     go_roundg k3
     case measure => have := HJ4.out; have := HK2.out; have := HK3.out; omega
     case rel => exact ⟨(x11_3), (x12_3), (wrap64 (x37_2 + 1)), (by first | rfl | (simp; done) | (simp [*]; done)), H', ⟨by have := HJ4.out; have := HK2.out; have := HK3.out; omega⟩, ⟨rdl HO_11⟩, ⟨rdl HO_12⟩, ⟨sdl HO_35⟩, ⟨sdl HO_403001⟩, ⟨bkl BK396⟩, ⟨bkl BK402⟩, ⟨bel2 HB GE396 GE402⟩⟩
    rw [if_pos c25] at H
    have c25b0 : decide (x43_3 < ((rd_L2 t398 x37_2).length : Int)) = true := decide_eq_true c25
    clear c25
    by_cases c26 : 0 ≤ x43_3
    rotate_left
    ·rw [if_neg c26] at H
     exact absurd H (by simp)
    rw [if_pos c26] at H
    have c26b0 : decide (0 ≤ x43_3) = true := decide_eq_true c26
    clear c26
    by_cases c27 : x43_3 < ((rd_L2 t398 x37_2).length : Int)
    rotate_left
    ·rw [if_neg c27] at H
     exact absurd H (by simp)
    rw [if_pos c27] at H
    have c27b0 : decide (x43_3 < ((rd_L2 t398 x37_2).length : Int)) = true := decide_eq_true c27
    clear c27
    obtain ⟨ji28, hji28⟩ : ∃ j_ : Int, (wrap64 ((rd (rd_L2 t398 x37_2) x43_3) - 1)) = j_ := ⟨_, rfl⟩
    replace H : (if 0 ≤ (ji28) then (if (ji28) < (l0_2.length : Int) then (if (rd l0_2 (ji28)) = a2 then (if x11_3.length < 17592186044416 then (impl_PortWork.l1 k3 a2 (x11_3 ++ [rd (rd_L2 t398 x37_2) x43_3]) x12_3 true t398 (t398.length : Int) x37_2 (rd_L2 t398 x37_2) ((rd_L2 t398 x37_2).length : Int) (wrap64 (x43_3 + 1)) a0_0 a0_1 l0_2) else (none)) else (if x15_3 = true then (if (rd l0_2 (ji28)) > a2 then (if x12_3.length < 17592186044416 then (impl_PortWork.l1 k3 a2 x11_3 (x12_3 ++ [rd (rd_L2 t398 x37_2) x43_3]) x15_3 t398 (t398.length : Int) x37_2 (rd_L2 t398 x37_2) ((rd_L2 t398 x37_2).length : Int) (wrap64 (x43_3 + 1)) a0_0 a0_1 l0_2) else (none)) else (impl_PortWork.l1 k3 a2 x11_3 x12_3 x15_3 t398 (t398.length : Int) x37_2 (rd_L2 t398 x37_2) ((rd_L2 t398 x37_2).length : Int) (wrap64 (x43_3 + 1)) a0_0 a0_1 l0_2)) else (impl_PortWork.l1 k3 a2 x11_3 x12_3 x15_3 t398 (t398.length : Int) x37_2 (rd_L2 t398 x37_2) ((rd_L2 t398 x37_2).length : Int) (wrap64 (x43_3 + 1)) a0_0 a0_1 l0_2))) else (none)) else (none)) = some (r1, r2, r3) := by first | (rw [hji28] at H; exact H) | (simp only [hji28] at H ⊢; exact H)
    have hji28w : (IntKind.i64.wrap ((rd (rd_L2 t398 x37_2) x43_3) - 1)) = ji28 := (i64_w _).trans hji28
    by_cases c29 : 0 ≤ (ji28)
    rotate_left
    ·rw [if_neg c29] at H
     exact absurd H (by simp)
    rw [if_pos c29] at H
    have c29b0 : decide (0 ≤ (ji28)) = true := decide_eq_true c29
    clear c29
    by_cases c30 : (ji28) < (l0_2.length : Int)
    rotate_left
    ·rw [if_neg c30] at H
     exact absurd H (by simp)
    rw [if_pos c30] at H
    have c30b0 : decide ((ji28) < (l0_2.length : Int)) = true := decide_eq_true c30
    clear c30
    by_cases c31 : (rd l0_2 (ji28)) = a2
    ·rw [if_pos c31] at H
     have c31b0 : ((rd l0_2 (ji28)) == a2) = true := beq_iff_eq.mpr c31
     have c31b1 : ((rd l0_2 (ji28)) != a2) = false := bne_eq_false_iff_eq.mpr c31
     clear c31
     by_cases c32 : x11_3.length < 17592186044416
     rotate_left
     ·rw [if_neg c32] at H
      exact absurd H (by simp)
     rw [if_pos c32] at H
     have LMc32 := Aside0.mk c32
     clear c32
     obtain ⟨y415, hy415⟩ : ∃ y_ : List Int, y_ = (x11_3 ++ [rd (rd_L2 t398 x37_2) x43_3]) := ⟨_, rfl⟩
     replace H : (impl_PortWork.l1 k3 a2 y415 x12_3 true t398 (t398.length : Int) x37_2 (rd_L2 t398 x37_2) ((rd_L2 t398 x37_2).length : Int) (wrap64 (x43_3 + 1)) a0_0 a0_1 l0_2) = some (r1, r2, r3) := by first | (rw [hy415]; with_reducible exact H) | (have H2_ := (Option.bind_some _ _).symm.trans H; rw [hy415]; with_reducible exact H2_) | (have H2_ := (Option.bind_some _ _).symm.trans H; with_reducible exact H2_) | with_reducible exact H | (rw [hy415]; exact H) | exact H
     have Ny415 := Aside0.mk hy415
     clear hy415
     have H' := Aside0.mk H
     clear H
     have p413 : 0 ≤ (x43_3 : Int) := oda
     have q413 : x43_3 < ((rd_L2 t398 x37_2).length : Int) := oda
     obtain ⟨ad413, e413, hx413_0⟩ := Kd.at_int (Kd.R_reads' HO_403001.out).2.2 x43_3 p413 q413
     cases e413
     skip
     replace p413 := eq_true p413
     replace q413 := eq_true q413
     have hnb33 := NB396_402.out
     have hnc33 := NB402_396.out
     have hcz34_0 : wr.cell? ⟨gb396, 0, none⟩ = some (.int .i64 a0_0) := (blk_cell BK396.out 0).trans rfl
     have hcz34_1 : wr.cell? ⟨gb396, 1, none⟩ = some (.int .i64 a0_1) := (blk_cell BK396.out 1).trans rfl
     have hcz34_2 : wr.cell? ⟨gb396, 2, none⟩ = some (.slice A0_2 l0_2.length c0_2) := (blk_cell BK396.out 2).trans rfl
     have hfz34_0 := blk_frozen BK396.out 0
     have hfz34_1 := blk_frozen BK396.out 1
     have hfz34_2 := blk_frozen BK396.out 2
     have p414 : 0 ≤ ((ji28) : Int) := oda
     have q414 : (ji28) < (l0_2.length : Int) := oda
     obtain ⟨ad414, e414, hx414_0⟩ := Kd.at_int HR0_2.out (ji28) p414 q414
     cases e414
     replace hx414_0 := cel HB hx414_0
     replace p414 := eq_true p414
     replace q414 := eq_true q414
     go_wp2_with (first | ((with_reducible refine gate_builtin (b := .append) (xs := #[.tmp 57, .tmp 59]) rfl ?_); at_builtin; refine Kd.R_append (Kd.int .i64) (w0 := w) w.heap.size rfl (.tmp 57) (.tmp 59) 24 3 (.int .i64 0) 8 rfl Try.underlying24 info3 rfl (by decide) (by omega) u11 x11_3 (rd (rd_L2 t398 x37_2) x43_3) [.int .i64 (rd (rd_L2 t398 x37_2) x43_3)] (fun k_ => some k_ ≠ (u12 : Value).ownBlock) (fun _ => False) rfl rfl ?aP (fun _ hk => hk.elim) ?aF ?aO ?aB ?aS ?aL ?_; (case aP => exact rfl); (case aB => exact (bel2 HB GE396 GE402)); (case aF => exact (fun k_ hk => Kd.fresh' (Kd.R_lt (rdl HO_12)) k_ hk)); (case aO => exact (rdl HO_11)); (case aS => exact (below_size (bel2 HB GE396 GE402))); (case aL => have := LMc32.out; omega); intro v416 w35 ho hb hg hat; rw [← Ny415.out] at ho; have n0_ := Aside0.mk (Kd.R_after (ok := (fun _ => True)) (by (with_reducible repeat (first | apply Kd.R_alloc | apply Kd.R_drewN | apply Kd.R_drew)); exact Kd.R_mono HO_12.out (fun _ hk => ⟨trivial, hk⟩)) hg hat); have n1_ := Aside0.mk (Kd.S_after (ok := (fun k_ => some k_ ≠ (u12 : Value).ownBlock)) (by (with_reducible repeat (first | apply Kd.S_alloc | apply Kd.S_drewN | apply Kd.S_drew)); exact Kd.S_mono HO_35.out (fun _ hk => ⟨hk.2, hk.1⟩)) hg hat); have n2_ := Aside0.mk (Kd.R_after (ok := (fun k_ => some k_ ≠ (u12 : Value).ownBlock)) (by (with_reducible repeat (first | apply Kd.R_alloc | apply Kd.R_drewN | apply Kd.R_drew)); exact Kd.R_mono HO_403001.out (fun _ hk => ⟨hk.2, hk.1⟩)) hg hat); have n3_ := Aside0.mk (blk_grown (g := gb396) (o := .cells #[.int .i64 a0_0, .int .i64 a0_1, .slice (some ad414) l0_2.length c0_2] 26 (0, 0)) (bkl BK396) hg (Kd.R_ne HO_11.out BK396.out (by decide))); have n4_ := Aside0.mk (blk_grown (g := gb402) (o := .cells #[.int .i64 t397, .slice (some ad412) t398.length co12] 45 (0, 0)) (bkl BK402) hg (Kd.R_ne HO_11.out BK402.out (by decide))); have n5_ := Aside0.mk (hb); have n6_ := Aside0.mk (ho); clear HO_12; clear HO_35; clear HO_403001; clear BK396; clear BK402; clear HB; clear HO_11; have HO_12 := n0_; have HO_35 := n1_; have HO_403001 := n2_; have BK396 := n3_; have BK402 := n4_; have HB := n5_; have HO417 := n6_; clear n0_ n1_ n2_ n3_ n4_ n5_ n6_; clear ho hb hg hat))
     go_roundg k3
     case measure => have := HJ4.out; have := HK2.out; have := HK3.out; omega
     case rel => exact ⟨(y415), (x12_3), (true), (wrap64 (x43_3 + 1)), (by first | rfl | (simp; done) | (simp [*]; done)), (by first | rfl | (simp; done) | (simp [*]; done)), H', ⟨by have := HJ4.out; have := HK2.out; have := HK3.out; omega⟩, ⟨rdl HO417⟩, ⟨by (with_reducible repeat (first | apply Kd.R_alloc | apply Kd.R_drewN | apply Kd.R_drew)); exact Kd.R_mono HO_12.out (fun _ hk => hk.2)⟩, ⟨by (with_reducible repeat (first | apply Kd.S_alloc | apply Kd.S_drewN | apply Kd.S_drew)); exact Kd.S_mono HO_35.out (fun _ hk => ⟨hk.2, hk.1⟩)⟩, ⟨by (with_reducible repeat (first | apply Kd.R_alloc | apply Kd.R_drewN | apply Kd.R_drew)); exact Kd.R_mono HO_403001.out (fun _ hk => ⟨hk.2, hk.1⟩)⟩, ⟨bkl BK396⟩, ⟨bkl BK402⟩, ⟨bel2 HB GE396 GE402⟩⟩
    rw [if_neg c31] at H
    have c31b0 : ((rd l0_2 (ji28)) == a2) = false := beq_eq_false_iff_ne.mpr c31
    have c31b1 : ((rd l0_2 (ji28)) != a2) = true := bne_iff_ne.mpr c31
    by_cases c36 : x15_3 = true
    rotate_left
    ·replace c36 := Bool.eq_false_iff.mpr c36
     subst c36
     have H1 : (impl_PortWork.l1 k3 a2 x11_3 x12_3 false t398 (t398.length : Int) x37_2 (rd_L2 t398 x37_2) ((rd_L2 t398 x37_2).length : Int) (wrap64 (x43_3 + 1)) a0_0 a0_1 l0_2) = some (r1, r2, r3) := by rw [if_neg (show ¬ (false = true) by decide)] at H; exact H
     clear H
     have H := H1
     clear H1
     have H' := Aside0.mk H
     clear H
     have p413 : 0 ≤ (x43_3 : Int) := oda
     have q413 : x43_3 < ((rd_L2 t398 x37_2).length : Int) := oda
     obtain ⟨ad413, e413, hx413_0⟩ := Kd.at_int (Kd.R_reads' HO_403001.out).2.2 x43_3 p413 q413
     cases e413
     skip
     replace p413 := eq_true p413
     replace q413 := eq_true q413
     have hnb44 := NB396_402.out
     have hnc44 := NB402_396.out
     have hcz45_0 : wr.cell? ⟨gb396, 0, none⟩ = some (.int .i64 a0_0) := (blk_cell BK396.out 0).trans rfl
     have hcz45_1 : wr.cell? ⟨gb396, 1, none⟩ = some (.int .i64 a0_1) := (blk_cell BK396.out 1).trans rfl
     have hcz45_2 : wr.cell? ⟨gb396, 2, none⟩ = some (.slice A0_2 l0_2.length c0_2) := (blk_cell BK396.out 2).trans rfl
     have hfz45_0 := blk_frozen BK396.out 0
     have hfz45_1 := blk_frozen BK396.out 1
     have hfz45_2 := blk_frozen BK396.out 2
     have p414 : 0 ≤ ((ji28) : Int) := oda
     have q414 : (ji28) < (l0_2.length : Int) := oda
     obtain ⟨ad414, e414, hx414_0⟩ := Kd.at_int HR0_2.out (ji28) p414 q414
     cases e414
     replace hx414_0 := cel HB hx414_0
     replace p414 := eq_true p414
     replace q414 := eq_true q414
     go_wp2
     go_roundg k3
     case measure => have := HJ4.out; have := HK2.out; have := HK3.out; omega
     case rel => exact ⟨(x11_3), (x12_3), (false), (wrap64 (x43_3 + 1)), (by first | rfl | (simp; done) | (simp [*]; done)), (by first | rfl | (simp; done) | (simp [*]; done)), H', ⟨by have := HJ4.out; have := HK2.out; have := HK3.out; omega⟩, ⟨rdl HO_11⟩, ⟨rdl HO_12⟩, ⟨sdl HO_35⟩, ⟨rdl HO_403001⟩, ⟨bkl BK396⟩, ⟨bkl BK402⟩, ⟨bel2 HB GE396 GE402⟩⟩
    subst c36
    have H1 : (if (rd l0_2 (ji28)) > a2 then (if x12_3.length < 17592186044416 then (impl_PortWork.l1 k3 a2 x11_3 (x12_3 ++ [rd (rd_L2 t398 x37_2) x43_3]) true t398 (t398.length : Int) x37_2 (rd_L2 t398 x37_2) ((rd_L2 t398 x37_2).length : Int) (wrap64 (x43_3 + 1)) a0_0 a0_1 l0_2) else (none)) else (impl_PortWork.l1 k3 a2 x11_3 x12_3 true t398 (t398.length : Int) x37_2 (rd_L2 t398 x37_2) ((rd_L2 t398 x37_2).length : Int) (wrap64 (x43_3 + 1)) a0_0 a0_1 l0_2)) = some (r1, r2, r3) := by rw [if_pos rfl] at H; exact H
    clear H
    have H := H1
    clear H1
    by_cases c37 : (rd l0_2 (ji28)) > a2
    rotate_left
    ·rw [if_neg c37] at H
     have c37b0 : decide (a2 < (rd l0_2 (ji28))) = false := decide_eq_false c37
     clear c37
     have H' := Aside0.mk H
     clear H
     have p413 : 0 ≤ (x43_3 : Int) := oda
     have q413 : x43_3 < ((rd_L2 t398 x37_2).length : Int) := oda
     obtain ⟨ad413, e413, hx413_0⟩ := Kd.at_int (Kd.R_reads' HO_403001.out).2.2 x43_3 p413 q413
     cases e413
     skip
     replace p413 := eq_true p413
     replace q413 := eq_true q413
     have hnb42 := NB396_402.out
     have hnc42 := NB402_396.out
     have hcz43_0 : wr.cell? ⟨gb396, 0, none⟩ = some (.int .i64 a0_0) := (blk_cell BK396.out 0).trans rfl
     have hcz43_1 : wr.cell? ⟨gb396, 1, none⟩ = some (.int .i64 a0_1) := (blk_cell BK396.out 1).trans rfl
     have hcz43_2 : wr.cell? ⟨gb396, 2, none⟩ = some (.slice A0_2 l0_2.length c0_2) := (blk_cell BK396.out 2).trans rfl
     have hfz43_0 := blk_frozen BK396.out 0
     have hfz43_1 := blk_frozen BK396.out 1
     have hfz43_2 := blk_frozen BK396.out 2
     have p414 : 0 ≤ ((ji28) : Int) := oda
     have q414 : (ji28) < (l0_2.length : Int) := oda
     obtain ⟨ad414, e414, hx414_0⟩ := Kd.at_int HR0_2.out (ji28) p414 q414
     cases e414
     replace hx414_0 := cel HB hx414_0
     replace p414 := eq_true p414
     replace q414 := eq_true q414
     go_wp2
     go_roundg k3
     case measure => have := HJ4.out; have := HK2.out; have := HK3.out; omega
     case rel => exact ⟨(x11_3), (x12_3), (true), (wrap64 (x43_3 + 1)), (by first | rfl | (simp; done) | (simp [*]; done)), (by first | rfl | (simp; done) | (simp [*]; done)), H', ⟨by have := HJ4.out; have := HK2.out; have := HK3.out; omega⟩, ⟨rdl HO_11⟩, ⟨rdl HO_12⟩, ⟨sdl HO_35⟩, ⟨rdl HO_403001⟩, ⟨bkl BK396⟩, ⟨bkl BK402⟩, ⟨bel2 HB GE396 GE402⟩⟩
    rw [if_pos c37] at H
    have c37b0 : decide (a2 < (rd l0_2 (ji28))) = true := decide_eq_true c37
    clear c37
    by_cases c38 : x12_3.length < 17592186044416
    rotate_left
    ·rw [if_neg c38] at H
     exact absurd H (by simp)
    rw [if_pos c38] at H
    have LMc38 := Aside0.mk c38
    clear c38
    obtain ⟨y418, hy418⟩ : ∃ y_ : List Int, y_ = (x12_3 ++ [rd (rd_L2 t398 x37_2) x43_3]) := ⟨_, rfl⟩
    replace H : (impl_PortWork.l1 k3 a2 x11_3 y418 true t398 (t398.length : Int) x37_2 (rd_L2 t398 x37_2) ((rd_L2 t398 x37_2).length : Int) (wrap64 (x43_3 + 1)) a0_0 a0_1 l0_2) = some (r1, r2, r3) := by first | (rw [hy418]; with_reducible exact H) | (have H2_ := (Option.bind_some _ _).symm.trans H; rw [hy418]; with_reducible exact H2_) | (have H2_ := (Option.bind_some _ _).symm.trans H; with_reducible exact H2_) | with_reducible exact H | (rw [hy418]; exact H) | exact H
    have Ny418 := Aside0.mk hy418
    clear hy418
    have H' := Aside0.mk H
    clear H
    have p413 : 0 ≤ (x43_3 : Int) := oda
    have q413 : x43_3 < ((rd_L2 t398 x37_2).length : Int) := oda
    obtain ⟨ad413, e413, hx413_0⟩ := Kd.at_int (Kd.R_reads' HO_403001.out).2.2 x43_3 p413 q413
    cases e413
    skip
    replace p413 := eq_true p413
    replace q413 := eq_true q413
    have hnb39 := NB396_402.out
    have hnc39 := NB402_396.out
    have hcz40_0 : wr.cell? ⟨gb396, 0, none⟩ = some (.int .i64 a0_0) := (blk_cell BK396.out 0).trans rfl
    have hcz40_1 : wr.cell? ⟨gb396, 1, none⟩ = some (.int .i64 a0_1) := (blk_cell BK396.out 1).trans rfl
    have hcz40_2 : wr.cell? ⟨gb396, 2, none⟩ = some (.slice A0_2 l0_2.length c0_2) := (blk_cell BK396.out 2).trans rfl
    have hfz40_0 := blk_frozen BK396.out 0
    have hfz40_1 := blk_frozen BK396.out 1
    have hfz40_2 := blk_frozen BK396.out 2
    have p414 : 0 ≤ ((ji28) : Int) := oda
    have q414 : (ji28) < (l0_2.length : Int) := oda
    obtain ⟨ad414, e414, hx414_0⟩ := Kd.at_int HR0_2.out (ji28) p414 q414
    cases e414
    replace hx414_0 := cel HB hx414_0
    replace p414 := eq_true p414
    replace q414 := eq_true q414
    go_wp2_with (first | ((with_reducible refine gate_builtin (b := .append) (xs := #[.tmp 68, .tmp 70]) rfl ?_); at_builtin; refine Kd.R_append (Kd.int .i64) (w0 := w) w.heap.size rfl (.tmp 68) (.tmp 70) 24 3 (.int .i64 0) 8 rfl Try.underlying24 info3 rfl (by decide) (by omega) u12 x12_3 (rd (rd_L2 t398 x37_2) x43_3) [.int .i64 (rd (rd_L2 t398 x37_2) x43_3)] (fun k_ => some k_ ≠ (u11 : Value).ownBlock) (fun _ => False) rfl rfl ?aP (fun _ hk => hk.elim) ?aF ?aO ?aB ?aS ?aL ?_; (case aP => exact rfl); (case aB => exact (bel2 HB GE396 GE402)); (case aF => exact (fun k_ hk => Kd.fresh' (Kd.R_lt (rdl HO_11)) k_ hk)); (case aO => exact (rdl HO_12)); (case aS => exact (below_size (bel2 HB GE396 GE402))); (case aL => have := LMc38.out; omega); intro v419 w41 ho hb hg hat; rw [← Ny418.out] at ho; have n0_ := Aside0.mk (Kd.R_after (ok := (fun _ => True)) (by (with_reducible repeat (first | apply Kd.R_alloc | apply Kd.R_drewN | apply Kd.R_drew)); exact Kd.R_mono HO_11.out (fun _ hk => ⟨trivial, hk⟩)) hg hat); have n1_ := Aside0.mk (Kd.S_after (ok := (fun k_ => some k_ ≠ (u11 : Value).ownBlock)) (sdl HO_35) hg hat); have n2_ := Aside0.mk (Kd.R_after (ok := (fun k_ => some k_ ≠ (u11 : Value).ownBlock)) (rdl HO_403001) hg hat); have n3_ := Aside0.mk (blk_grown (g := gb396) (o := .cells #[.int .i64 a0_0, .int .i64 a0_1, .slice (some ad414) l0_2.length c0_2] 26 (0, 0)) (bkl BK396) hg (Kd.R_ne HO_12.out BK396.out (by decide))); have n4_ := Aside0.mk (blk_grown (g := gb402) (o := .cells #[.int .i64 t397, .slice (some ad412) t398.length co12] 45 (0, 0)) (bkl BK402) hg (Kd.R_ne HO_12.out BK402.out (by decide))); have n5_ := Aside0.mk (hb); have n6_ := Aside0.mk (ho); clear HO_11; clear HO_35; clear HO_403001; clear BK396; clear BK402; clear HB; clear HO_12; have HO_11 := n0_; have HO_35 := n1_; have HO_403001 := n2_; have BK396 := n3_; have BK402 := n4_; have HB := n5_; have HO420 := n6_; clear n0_ n1_ n2_ n3_ n4_ n5_ n6_; clear ho hb hg hat))
    go_roundg k3
    case measure => have := HJ4.out; have := HK2.out; have := HK3.out; omega
    case rel => exact ⟨(x11_3), (y418), (true), (wrap64 (x43_3 + 1)), (by first | rfl | (simp; done) | (simp [*]; done)), (by first | rfl | (simp; done) | (simp [*]; done)), H', ⟨by have := HJ4.out; have := HK2.out; have := HK3.out; omega⟩, ⟨by (with_reducible repeat (first | apply Kd.R_alloc | apply Kd.R_drewN | apply Kd.R_drew)); exact Kd.R_mono HO_11.out (fun _ hk => hk.2)⟩, ⟨rdl HO420⟩, ⟨sdl HO_35⟩, ⟨rdl HO_403001⟩, ⟨bkl BK396⟩, ⟨bkl BK402⟩, ⟨bel2 HB GE396 GE402⟩⟩
/-! ### spec_l1Has: function 85 -/
def spec_l1Has.l0 : Nat → List Int → Int → Int → Option (Bool)
 | 0, _, _, _ => none
 | k + 1, x0, x1, x5 => if x5 < (x0.length : Int) then (if 0 ≤ x5 then (if (rd x0 x5) = x1 then (some true) else (spec_l1Has.l0 k x0 x1 (wrap64 (x5 + 1)))) else (none)) else (some false)
def spec_l1Has.f (k : Nat) (l0 : List Int) (a1 : Int) : Option (Bool) := spec_l1Has.l0 k l0 a1 0
theorem spec_l1Has.mono_l : ∀ k, (∀ y0 y1 y2, LeO (spec_l1Has.l0 k y0 y1 y2) (spec_l1Has.l0 (k + 1) y0 y1 y2))
 | 0 => fun _ _ _ r h => by simp [spec_l1Has.l0] at h
 | k + 1 => by
  have ih0 := spec_l1Has.mono_l k
  ·intro y0 y1 y2
   unfold spec_l1Has.l0
   repeat' first
   | (with_reducible exact ih0 _ _ _)
   | (with_reducible exact LeO.refl _)
   | (with_reducible exact LeO.none _)
   | (with_reducible refine LeO.ite ?_ ?_)
   | (with_reducible refine LeO.bind ?_ (fun _ => ?_))
   | exact ih0 _ _ _
   | exact LeO.none _
   | refine LeO.ite ?_ ?_
   | refine LeO.bind ?_ (fun _ => ?_)
theorem spec_l1Has.mono : ∀ a0 a1 k, LeO (spec_l1Has.f k a0 a1) (spec_l1Has.f (k + 1) a0 a1) := by
 intro a0 a1 k
 have ih0 := spec_l1Has.mono_l k
 unfold spec_l1Has.f
 repeat' first
   | (with_reducible exact ih0 _ _ _)
   | (with_reducible exact LeO.refl _)
   | (with_reducible exact LeO.none _)
   | (with_reducible refine LeO.ite ?_ ?_)
   | (with_reducible refine LeO.bind ?_ (fun _ => ?_))
   | exact ih0 _ _ _
   | exact LeO.none _
   | refine LeO.ite ?_ ?_
   | refine LeO.bind ?_ (fun _ => ?_)
set_option maxHeartbeats 8000000 in
set_option maxRecDepth 100000 in
theorem spec_l1Has.calls (k : Nat) (A0 : Option Addr) (c0 : Nat) (l0 : List Int) (a1 : Int) (r : Bool) (w : World) (hr0 : Kd.C (Kd.int .i64) w A0 l0.length l0) (hc0 : l0.length ≤ c0) (h : spec_l1Has.f k l0 a1 = some r) :
  Calls Try.prog 85 #[.slice A0 l0.length c0, .int .i64 a1] w fun e w' => e = .returned (.bool r) ∧ Drawn0 w w' := by
 have HR0 := Aside0.mk hr0
 have HC0 := Aside0.mk hc0
 clear hr0 hc0
 have H : (spec_l1Has.l0 k l0 a1 0) = some r := h
 clear h
 have H' := Aside0.mk H
 clear H
 go_enter Try.func85, Try.ntmps85
 go_wp2
 go_loopg [5] k (fun kq v5 w' => ∃ (x5_1 : Int), v5 = .int .i64 x5_1 ∧ Aside0 (spec_l1Has.l0 kq l0 a1 x5_1 = some r) ∧ Aside0 (kq ≤ k) ∧ Drawn0 w w')
 case atStart => exact ⟨(0), (by first | rfl | (simp; done) | (simp [*]; done)), H', ⟨Nat.le_refl _⟩, by repeat (first | exact Drawn0.refl _ | apply Drawn0.step)⟩
 clear H'
 try clear p2
 obtain ⟨x5_1, rfl, HA, HK1, ⟨m1, rfl⟩⟩ := hrel
 cases gk with
 | zero => exact absurd HA.out (by simp [spec_l1Has.l0])
 | succ k1 =>
  have H := HA.out
  clear HA
  simp only [spec_l1Has.l0] at H
  by_cases c3 : x5_1 < (l0.length : Int)
  rotate_left
  ·rw [if_neg c3] at H
   have c3b0 : decide (x5_1 < (l0.length : Int)) = false := decide_eq_false c3
   clear c3
   obtain rfl := Option.some.inj H
   go_wp2
   go_ret
   exact ⟨by first | rfl | (simp; done) | (simp [*]; done), by repeat (first | exact Drawn0.refl _ | apply Drawn0.step)⟩
  rw [if_pos c3] at H
  have c3b0 : decide (x5_1 < (l0.length : Int)) = true := decide_eq_true c3
  clear c3
  by_cases c4 : 0 ≤ x5_1
  rotate_left
  ·rw [if_neg c4] at H
   exact absurd H (by simp)
  rw [if_pos c4] at H
  have c4b0 : decide (0 ≤ x5_1) = true := decide_eq_true c4
  clear c4
  by_cases c5 : (rd l0 x5_1) = a1
  ·rw [if_pos c5] at H
   have c5b0 : ((rd l0 x5_1) == a1) = true := beq_iff_eq.mpr c5
   have c5b1 : ((rd l0 x5_1) != a1) = false := bne_eq_false_iff_eq.mpr c5
   clear c5
   obtain rfl := Option.some.inj H
   have p421 : 0 ≤ (x5_1 : Int) := oda
   have q421 : x5_1 < (l0.length : Int) := oda
   obtain ⟨ad421, e421, hx421_0⟩ := Kd.at_int HR0.out x5_1 p421 q421
   cases e421
   replace p421 := eq_true p421
   replace q421 := eq_true q421
   go_wp2
   go_ret
   exact ⟨by first | rfl | (simp; done) | (simp [*]; done), by repeat (first | exact Drawn0.refl _ | apply Drawn0.step)⟩
  rw [if_neg c5] at H
  have c5b0 : ((rd l0 x5_1) == a1) = false := beq_eq_false_iff_ne.mpr c5
  have c5b1 : ((rd l0 x5_1) != a1) = true := bne_iff_ne.mpr c5
  have H' := Aside0.mk H
  clear H
  have p421 : 0 ≤ (x5_1 : Int) := oda
  have q421 : x5_1 < (l0.length : Int) := oda
  obtain ⟨ad421, e421, hx421_0⟩ := Kd.at_int HR0.out x5_1 p421 q421
  cases e421
  replace p421 := eq_true p421
  replace q421 := eq_true q421
  go_wp2
  go_roundg k1
  case measure => have := HK1.out; omega
  case rel => exact ⟨(wrap64 (x5_1 + 1)), (by first | rfl | (simp; done) | (simp [*]; done)), H', ⟨by have := HK1.out; omega⟩, by repeat (first | exact Drawn0.refl _ | apply Drawn0.step)⟩
end Go.Proofs.Ytipahijdcgoemaa.P
