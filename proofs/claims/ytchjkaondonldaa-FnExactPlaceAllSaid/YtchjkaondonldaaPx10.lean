-- Written by a program of this session over the translation (a variant of the printer, see wip/gen); Lean checks it.
import Derived.Test.YtchjkaondonldaaPx0
import Derived.Test.YtchjkaondonldaaPx6
import Derived.Test.YtchjkaondonldaaPx8
import Derived.Test.YtchjkaondonldaaPx9
namespace Go.Proofs.Ytchjkaondonldaa.P
open Go.RowKit Go.Proofs.YtchjkaondonldaaW.PrintWords Go.Proofs.YtchjkaondonldaaW.PrintLast Go.Proofs.YtchjkaondonldaaW.PrintMore
attribute [local go_sem] Go.Proofs.Ytchjkaondonldaa.V.isSome_setCell max2_int min2_int max_two min_two max_three min_three max_four min_four   -- for this text's walks alone
set_option linter.unusedVariables false
set_option linter.unusedSimpArgs false

/-! ### impl_earliestOf: function 55 -/
def impl_earliestOf.f (l0 : List Int) : Option (Int) := if (l0.length : Int) = 0 then (some 100) else ((slices_Min_int_int.f l0).bind fun t160 => (some t160))
set_option maxHeartbeats 8000000 in
set_option maxRecDepth 100000 in
theorem impl_earliestOf.calls (A0 : Option Addr) (c0 : Nat) (l0 : List Int) (r : Int) (w : World) (hr0 : Kd.C (Kd.int .i64) w A0 l0.length l0) (hc0 : l0.length ≤ c0) (h : impl_earliestOf.f l0 = some r) :
  Calls Try.prog 55 #[.slice A0 l0.length c0] w fun e w' => e = .returned (.int .i64 r) ∧ Drawn0 w w' := by
 have HR0 := Aside0.mk hr0
 have HC0 := Aside0.mk hc0
 clear hr0 hc0
 have H : (if (l0.length : Int) = 0 then (some 100) else ((slices_Min_int_int.f l0).bind fun t160 => (some t160))) = some r := h
 clear h
 by_cases c2 : (l0.length : Int) = 0
 ·rw [if_pos c2] at H
  have c2b0 : ((l0.length : Int) == 0) = true := beq_iff_eq.mpr c2
  have c2b1 : ((l0.length : Int) != 0) = false := bne_eq_false_iff_eq.mpr c2
  clear c2
  obtain rfl := Option.some.inj H
  go_enter Try.func55, Try.ntmps55
  go_wp2
  go_ret
  exact ⟨by first | rfl | (simp; done) | (simp [*]; done), by repeat (first | exact Drawn0.refl _ | apply Drawn0.step)⟩
 ·rw [if_neg c2] at H
  have c2b0 : ((l0.length : Int) == 0) = false := beq_eq_false_iff_ne.mpr c2
  have c2b1 : ((l0.length : Int) != 0) = true := bne_iff_ne.mpr c2
  have c2b2 : ¬ (l0 = []) := fun h_ => c2 (by rw [h_]; rfl)
  replace H := Option.bind_eq_some_iff.mp H
  obtain ⟨t160, A30, H⟩ := H
  replace H : (some t160) = some r := H
  have A3 := Aside0.mk A30
  clear A30
  obtain rfl := Option.some.inj H
  go_enter Try.func55, Try.ntmps55
  go_wp2_with (first | ((with_reducible refine gate_callee (f := 86) rfl ?_); refine goesL_ (some 7) rfl rfl Try.func86 (by kernel_rfl) rfl #[.slice A0 l0.length c0] rfl gmp ?_; (with_reducible refine (slices_Min_int_int.calls _ _ l0 t160 _ ?side1 ?side2 A3.out).mono ?_); (case side1 => repeat (first | exact HR0.out | (with_reducible refine Kd.C_alloc ?_ _) | (with_reducible refine Kd.C_drewN ?_ _) | (with_reducible refine Kd.C_drew ?_))); (case side2 => exact HC0.out); rintro e w' ⟨rfl, ⟨nd, rfl⟩⟩; refine ⟨_, rfl, ?_⟩))
  go_ret
  exact ⟨by first | rfl | (simp; done) | (simp [*]; done), by repeat (first | exact Drawn0.refl _ | apply Drawn0.step)⟩

/-! ### impl_chooseStack: function 69 -/
mutual
def impl_chooseStack.l0 : Nat → Int → Int → List (List Int) → Int → Int → List (List Int) → Option (Int)
 | 0, _, _, _, _, _, _ => none
 | k + 1, x1, x5, x12, x13, x14, x162000 => if x14 < x13 then (if 0 ≤ x14 then (if x14 < (x12.length : Int) then ((impl_earliestOf.f (rd_L1 x12 x14)).bind fun t163 => (if ((rd_L1 x12 x14).length : Int) < 4 then (if t163 > x1 then (if x5 < 0 then (impl_chooseStack.l0 k x1 x14 x12 x13 (wrap64 (x14 + 1)) x162000) else (if 0 ≤ x5 then (if x5 < (x162000.length : Int) then ((impl_earliestOf.f (rd_L1 x162000 x5)).bind fun t165 => (if t163 < t165 then (impl_chooseStack.l0 k x1 x14 x12 x13 (wrap64 (x14 + 1)) x162000) else (impl_chooseStack.l0 k x1 x5 x12 x13 (wrap64 (x14 + 1)) x162000))) else (none)) else (none))) else (impl_chooseStack.l0 k x1 x5 x12 x13 (wrap64 (x14 + 1)) x162000)) else (impl_chooseStack.l0 k x1 x5 x12 x13 (wrap64 (x14 + 1)) x162000))) else (none)) else (none)) else (if x5 ≥ 0 then (some x5) else (impl_chooseStack.l1 k x5 x162000 (x162000.length : Int) 0 x162000))
def impl_chooseStack.l1 : Nat → Int → List (List Int) → Int → Int → List (List Int) → Option (Int)
 | 0, _, _, _, _, _ => none
 | k + 1, x5, x49, x50, x51, x162000 => if x51 < x50 then (if 0 ≤ x51 then (if x51 < (x49.length : Int) then (if ((rd_L1 x49 x51).length : Int) < 4 then (if x5 < 0 then (impl_chooseStack.l1 k x51 x49 x50 (wrap64 (x51 + 1)) x162000) else ((impl_earliestOf.f (rd_L1 x49 x51)).bind fun t167 => (if 0 ≤ x5 then (if x5 < (x162000.length : Int) then ((impl_earliestOf.f (rd_L1 x162000 x5)).bind fun t169 => (if t167 > t169 then (impl_chooseStack.l1 k x51 x49 x50 (wrap64 (x51 + 1)) x162000) else (impl_chooseStack.l1 k x5 x49 x50 (wrap64 (x51 + 1)) x162000))) else (none)) else (none)))) else (impl_chooseStack.l1 k x5 x49 x50 (wrap64 (x51 + 1)) x162000)) else (none)) else (none)) else (some x5)
end
def impl_chooseStack.f (k : Nat) (l0_0 : List (List Int)) (a1 : Int) : Option (Int) := impl_chooseStack.l0 k a1 (-1) l0_0 (l0_0.length : Int) 0 l0_0
theorem impl_chooseStack.mono_l : ∀ k, (∀ y0 y1 y2 y3 y4 y5, LeO (impl_chooseStack.l0 k y0 y1 y2 y3 y4 y5) (impl_chooseStack.l0 (k + 1) y0 y1 y2 y3 y4 y5)) ∧ (∀ y0 y1 y2 y3 y4, LeO (impl_chooseStack.l1 k y0 y1 y2 y3 y4) (impl_chooseStack.l1 (k + 1) y0 y1 y2 y3 y4))
 | 0 => ⟨fun _ _ _ _ _ _ r h => by simp [impl_chooseStack.l0] at h, fun _ _ _ _ _ r h => by simp [impl_chooseStack.l1] at h⟩
 | k + 1 => by
  obtain ⟨ih0, ih1⟩ := impl_chooseStack.mono_l k
  refine ⟨?_, ?_⟩
  ·intro y0 y1 y2 y3 y4 y5
   unfold impl_chooseStack.l0
   repeat' first
   | (with_reducible exact ih0 _ _ _ _ _ _)
   | (with_reducible exact ih1 _ _ _ _ _)
   | (with_reducible exact LeO.refl _)
   | (with_reducible exact LeO.none _)
   | (with_reducible refine LeO.ite ?_ ?_)
   | (with_reducible refine LeO.bind ?_ (fun _ => ?_))
   | exact ih0 _ _ _ _ _ _
   | exact ih1 _ _ _ _ _
   | exact LeO.none _
   | refine LeO.ite ?_ ?_
   | refine LeO.bind ?_ (fun _ => ?_)
  ·intro y0 y1 y2 y3 y4
   unfold impl_chooseStack.l1
   repeat' first
   | (with_reducible exact ih0 _ _ _ _ _ _)
   | (with_reducible exact ih1 _ _ _ _ _)
   | (with_reducible exact LeO.refl _)
   | (with_reducible exact LeO.none _)
   | (with_reducible refine LeO.ite ?_ ?_)
   | (with_reducible refine LeO.bind ?_ (fun _ => ?_))
   | exact ih0 _ _ _ _ _ _
   | exact ih1 _ _ _ _ _
   | exact LeO.none _
   | refine LeO.ite ?_ ?_
   | refine LeO.bind ?_ (fun _ => ?_)
theorem impl_chooseStack.mono : ∀ a0 a1 k, LeO (impl_chooseStack.f k a0 a1) (impl_chooseStack.f (k + 1) a0 a1) := by
 intro a0 a1 k
 obtain ⟨ih0, ih1⟩ := impl_chooseStack.mono_l k
 unfold impl_chooseStack.f
 repeat' first
   | (with_reducible exact ih0 _ _ _ _ _ _)
   | (with_reducible exact ih1 _ _ _ _ _)
   | (with_reducible exact LeO.refl _)
   | (with_reducible exact LeO.none _)
   | (with_reducible refine LeO.ite ?_ ?_)
   | (with_reducible refine LeO.bind ?_ (fun _ => ?_))
   | exact ih0 _ _ _ _ _ _
   | exact ih1 _ _ _ _ _
   | exact LeO.none _
   | refine LeO.ite ?_ ?_
   | refine LeO.bind ?_ (fun _ => ?_)
set_option maxHeartbeats 8000000 in
set_option maxRecDepth 100000 in
theorem impl_chooseStack.calls (k : Nat) (A0_0 : Option Addr) (c0_0 : Nat) (l0_0 : List (List Int)) (a1 : Int) (r : Int) (w : World) (hr0_0 : Kd.C (Kd.slice 3 (Kd.int .i64)) w A0_0 l0_0.length l0_0) (hc0_0 : l0_0.length ≤ c0_0) (h : impl_chooseStack.f k l0_0 a1 = some r) :
  Calls Try.prog 69 #[.agg #[.slice A0_0 l0_0.length c0_0], .int .i64 a1] w fun e w' => e = .returned (.int .i64 r) ∧ Below w.heap.size w w' := by
 have hu28 := Try.underlying28
 have HR0_0 := Aside0.mk hr0_0
 have HC0_0 := Aside0.mk hc0_0
 clear hr0_0 hc0_0
 have HB := Aside0.mk (Below.refl w.heap.size w)
 have H : (impl_chooseStack.l0 k a1 (-1) l0_0 (l0_0.length : Int) 0 l0_0) = some r := h
 clear h
 have H' := Aside0.mk H
 clear H
 go_enter Try.func69, Try.ntmps69
 go_wp2_with (first | ((with_reducible refine gate_dst (N := 2) rfl ?_); refine box_event ?hg (N := 2) ?hd (cs := #[.slice A0_0 l0_0.length c0_0]) (t := 28) ?hr ?_; (case hd => rfl); (case hg => rfl); (case hr => first | (go_simp; done) | (go_simp; rfl)); intro gb161 hg w3 hbox hb; have n0_ := Aside0.mk (below_step (bel HB) hb); have n1_ := Aside0.mk (hbox); have n2_ := Aside0.mk ((by rw [hg]; exact (below_size (bel HB)) : w.heap.size ≤ gb161)); have n3_ := Aside0.mk ((by rw [hg]; exact (below_size (bel HB)) : w.heap.size ≤ gb161)); clear HB; have HB := n0_; have BK161 := n1_; have GW161 := n2_; have GE161 := n3_; clear n0_ n1_ n2_ n3_; clear hb hbox hg; have hcz4_0 : w3.cell? ⟨gb161, 0, none⟩ = some (.slice A0_0 l0_0.length c0_0) := (blk_cell BK161.out 0).trans rfl; have hfz4_0 := blk_frozen BK161.out 0))
 repeat (go_quiet (first | ((with_reducible refine gate_dst (N := 2) rfl ?_); refine box_event ?hg (N := 2) ?hd (cs := #[.slice A0_0 l0_0.length c0_0]) (t := 28) ?hr ?_; (case hd => rfl); (case hg => rfl); (case hr => first | (go_simp; done) | (go_simp; rfl)); intro gb161 hg w3 hbox hb; have n0_ := Aside0.mk (below_step (bel HB) hb); have n1_ := Aside0.mk (hbox); have n2_ := Aside0.mk ((by rw [hg]; exact (below_size (bel HB)) : w.heap.size ≤ gb161)); have n3_ := Aside0.mk ((by rw [hg]; exact (below_size (bel HB)) : w.heap.size ≤ gb161)); clear HB; have HB := n0_; have BK161 := n1_; have GW161 := n2_; have GE161 := n3_; clear n0_ n1_ n2_ n3_; clear hb hbox hg; have hcz4_0 : w3.cell? ⟨gb161, 0, none⟩ = some (.slice A0_0 l0_0.length c0_0) := (blk_cell BK161.out 0).trans rfl; have hfz4_0 := blk_frozen BK161.out 0)); try go_wp2_with (first | ((with_reducible refine gate_dst (N := 2) rfl ?_); refine box_event ?hg (N := 2) ?hd (cs := #[.slice A0_0 l0_0.length c0_0]) (t := 28) ?hr ?_; (case hd => rfl); (case hg => rfl); (case hr => first | (go_simp; done) | (go_simp; rfl)); intro gb161 hg w3 hbox hb; have n0_ := Aside0.mk (below_step (bel HB) hb); have n1_ := Aside0.mk (hbox); have n2_ := Aside0.mk ((by rw [hg]; exact (below_size (bel HB)) : w.heap.size ≤ gb161)); have n3_ := Aside0.mk ((by rw [hg]; exact (below_size (bel HB)) : w.heap.size ≤ gb161)); clear HB; have HB := n0_; have BK161 := n1_; have GW161 := n2_; have GE161 := n3_; clear n0_ n1_ n2_ n3_; clear hb hbox hg; have hcz4_0 : w3.cell? ⟨gb161, 0, none⟩ = some (.slice A0_0 l0_0.length c0_0) := (blk_cell BK161.out 0).trans rfl; have hfz4_0 := blk_frozen BK161.out 0)))
 go_loopg [5, 14] k (fun kq v5 v14 w' => ∃ (x5_1 : Int) (x14_1 : Int), v5 = .int .i64 x5_1 ∧ v14 = .int .i64 x14_1 ∧ Aside0 (impl_chooseStack.l0 kq a1 x5_1 l0_0 (l0_0.length : Int) x14_1 l0_0 = some r) ∧ Aside0 (kq ≤ k) ∧ Aside0 (w'.heap[gb161]? = some (.cells #[(.slice A0_0 l0_0.length c0_0)] 28 (0, 0))) ∧ Aside0 (Below w.heap.size w w'))
 case atStart => exact ⟨((-1)), (0), (by first | rfl | (simp; done) | (simp [*]; done)), (by first | rfl | (simp; done) | (simp [*]; done)), H', ⟨Nat.le_refl _⟩, ⟨bkl BK161⟩, ⟨bel1 HB GE161⟩⟩
 case round =>
  clear H'
  try clear p2
  try clear hcz4_0
  try clear hfz4_0
  obtain ⟨x5_1, x14_1, rfl, rfl, HA, HK1, BK161, HB⟩ := hrel
  cases gk with
  | zero => exact absurd HA.out (by simp [impl_chooseStack.l0])
  | succ k1 =>
   have H := HA.out
   clear HA
   simp only [impl_chooseStack.l0] at H
   by_cases c5 : x14_1 < (l0_0.length : Int)
   ·rw [if_pos c5] at H
    have c5b0 : decide (x14_1 < (l0_0.length : Int)) = true := decide_eq_true c5
    clear c5
    by_cases c6 : 0 ≤ x14_1
    ·rw [if_pos c6] at H
     have c6b0 : decide (0 ≤ x14_1) = true := decide_eq_true c6
     clear c6
     by_cases c7 : x14_1 < (l0_0.length : Int)
     ·rw [if_pos c7] at H
      have c7b0 : decide (x14_1 < (l0_0.length : Int)) = true := decide_eq_true c7
      clear c7
      replace H := Option.bind_eq_some_iff.mp H
      obtain ⟨t163, A80, H⟩ := H
      replace H : (if ((rd_L1 l0_0 x14_1).length : Int) < 4 then (if t163 > a1 then (if x5_1 < 0 then (impl_chooseStack.l0 k1 a1 x14_1 l0_0 (l0_0.length : Int) (wrap64 (x14_1 + 1)) l0_0) else (if 0 ≤ x5_1 then (if x5_1 < (l0_0.length : Int) then ((impl_earliestOf.f (rd_L1 l0_0 x5_1)).bind fun t165 => (if t163 < t165 then (impl_chooseStack.l0 k1 a1 x14_1 l0_0 (l0_0.length : Int) (wrap64 (x14_1 + 1)) l0_0) else (impl_chooseStack.l0 k1 a1 x5_1 l0_0 (l0_0.length : Int) (wrap64 (x14_1 + 1)) l0_0))) else (none)) else (none))) else (impl_chooseStack.l0 k1 a1 x5_1 l0_0 (l0_0.length : Int) (wrap64 (x14_1 + 1)) l0_0)) else (impl_chooseStack.l0 k1 a1 x5_1 l0_0 (l0_0.length : Int) (wrap64 (x14_1 + 1)) l0_0)) = some r := H
      have A8 := Aside0.mk A80
      clear A80
      by_cases c9 : ((rd_L1 l0_0 x14_1).length : Int) < 4
      ·rw [if_pos c9] at H
       have c9b0 : decide (((rd_L1 l0_0 x14_1).length : Int) < 4) = true := decide_eq_true c9
       have c9b1 : decide ((rd_L1 l0_0 x14_1).length < 4) = true := decide_eq_true (by omega)
       clear c9
       by_cases c10 : t163 > a1
       ·rw [if_pos c10] at H
        have c10b0 : decide (a1 < t163) = true := decide_eq_true c10
        clear c10
        by_cases c11 : x5_1 < 0
        ·rw [if_pos c11] at H
         have c11b0 : decide (x5_1 < 0) = true := decide_eq_true c11
         clear c11
         have H' := Aside0.mk H
         clear H
         have p162 : 0 ≤ (x14_1 : Int) := oda
         have q162 : x14_1 < (l0_0.length : Int) := oda
         obtain ⟨ad162, A162_0, c162_0, e162, hx162_0, hl162_0, hi162_0⟩ := at_L1 HR0_0.out x14_1 p162 q162
         cases e162
         replace hx162_0 := cel HB hx162_0
         have HR162_0 := Aside0.mk hi162_0
         have HC162_0 := Aside0.mk hl162_0
         clear hi162_0 hl162_0
         replace p162 := eq_true p162
         replace q162 := eq_true q162
         go_wp2_with (first | (go_at_call 55; (with_reducible refine (impl_earliestOf.calls _ _ (rd_L1 l0_0 x14_1) t163 _ ?side1 ?side2 A8.out).mono ?_); (case side1 => exact cdl (Kd.C_below HR162_0.out HB.out)); (case side2 => exact HC162_0.out); rintro e w' ⟨rfl, ⟨nd, rfl⟩⟩; (try first | exact ⟨rfl, _, World.drewN_drewN _ _ _⟩ | exact ⟨rfl, _, Eq.trans (World.drewN_drewN _ _ _) (congrArg (World.drewN _) (Nat.add_assoc _ _ _))⟩)))
         repeat (go_quiet (first | (go_at_call 55; (with_reducible refine (impl_earliestOf.calls _ _ (rd_L1 l0_0 x14_1) t163 _ ?side1 ?side2 A8.out).mono ?_); (case side1 => exact cdl (Kd.C_below HR162_0.out HB.out)); (case side2 => exact HC162_0.out); rintro e w' ⟨rfl, ⟨nd, rfl⟩⟩; (try first | exact ⟨rfl, _, World.drewN_drewN _ _ _⟩ | exact ⟨rfl, _, Eq.trans (World.drewN_drewN _ _ _) (congrArg (World.drewN _) (Nat.add_assoc _ _ _))⟩))); try go_wp2_with (first | (go_at_call 55; (with_reducible refine (impl_earliestOf.calls _ _ (rd_L1 l0_0 x14_1) t163 _ ?side1 ?side2 A8.out).mono ?_); (case side1 => exact cdl (Kd.C_below HR162_0.out HB.out)); (case side2 => exact HC162_0.out); rintro e w' ⟨rfl, ⟨nd, rfl⟩⟩; (try first | exact ⟨rfl, _, World.drewN_drewN _ _ _⟩ | exact ⟨rfl, _, Eq.trans (World.drewN_drewN _ _ _) (congrArg (World.drewN _) (Nat.add_assoc _ _ _))⟩))))
         go_roundg k1
         case measure => have := HK1.out; omega
         case rel => exact ⟨(x14_1), (wrap64 (x14_1 + 1)), (by first | rfl | (simp; done) | (simp [*]; done)), (by first | rfl | (simp; done) | (simp [*]; done)), H', ⟨by have := HK1.out; omega⟩, ⟨bkl BK161⟩, ⟨bel1 HB GE161⟩⟩
        ·rw [if_neg c11] at H
         have c11b0 : decide (x5_1 < 0) = false := decide_eq_false c11
         clear c11
         by_cases c12 : 0 ≤ x5_1
         ·rw [if_pos c12] at H
          have c12b0 : decide (0 ≤ x5_1) = true := decide_eq_true c12
          clear c12
          by_cases c13 : x5_1 < (l0_0.length : Int)
          ·rw [if_pos c13] at H
           have c13b0 : decide (x5_1 < (l0_0.length : Int)) = true := decide_eq_true c13
           clear c13
           replace H := Option.bind_eq_some_iff.mp H
           obtain ⟨t165, A140, H⟩ := H
           replace H : (if t163 < t165 then (impl_chooseStack.l0 k1 a1 x14_1 l0_0 (l0_0.length : Int) (wrap64 (x14_1 + 1)) l0_0) else (impl_chooseStack.l0 k1 a1 x5_1 l0_0 (l0_0.length : Int) (wrap64 (x14_1 + 1)) l0_0)) = some r := H
           have A14 := Aside0.mk A140
           clear A140
           by_cases c15 : t163 < t165
           ·rw [if_pos c15] at H
            have c15b0 : decide (t163 < t165) = true := decide_eq_true c15
            clear c15
            have H' := Aside0.mk H
            clear H
            have p162 : 0 ≤ (x14_1 : Int) := oda
            have q162 : x14_1 < (l0_0.length : Int) := oda
            obtain ⟨ad162, A162_0, c162_0, e162, hx162_0, hl162_0, hi162_0⟩ := at_L1 HR0_0.out x14_1 p162 q162
            cases e162
            replace hx162_0 := cel HB hx162_0
            have HR162_0 := Aside0.mk hi162_0
            have HC162_0 := Aside0.mk hl162_0
            clear hi162_0 hl162_0
            replace p162 := eq_true p162
            replace q162 := eq_true q162
            go_wp2_with (first | (go_at_call 55; (with_reducible refine (impl_earliestOf.calls _ _ (rd_L1 l0_0 x14_1) t163 _ ?side1 ?side2 A8.out).mono ?_); (case side1 => exact cdl (Kd.C_below HR162_0.out HB.out)); (case side2 => exact HC162_0.out); rintro e w' ⟨rfl, ⟨nd, rfl⟩⟩; (try first | exact ⟨rfl, _, World.drewN_drewN _ _ _⟩ | exact ⟨rfl, _, Eq.trans (World.drewN_drewN _ _ _) (congrArg (World.drewN _) (Nat.add_assoc _ _ _))⟩); have hcz16_0 : wr.cell? ⟨gb161, 0, none⟩ = some (.slice (some ad162) l0_0.length c0_0) := (blk_cell BK161.out 0).trans rfl; have hfz16_0 := blk_frozen BK161.out 0; have p164 : 0 ≤ (x5_1 : Int) := oda; have q164 : x5_1 < (l0_0.length : Int) := oda; obtain ⟨ad164, A164_0, c164_0, e164, hx164_0, hl164_0, hi164_0⟩ := at_L1 HR0_0.out x5_1 p164 q164; obtain rfl : ad162 = ad164 := (by injection e164); replace hx164_0 := cel HB hx164_0; have HR164_0 := Aside0.mk hi164_0; have HC164_0 := Aside0.mk hl164_0; clear hi164_0 hl164_0; replace p164 := eq_true p164; replace q164 := eq_true q164) | (go_at_call 55; (with_reducible refine (impl_earliestOf.calls _ _ (rd_L1 l0_0 x5_1) t165 _ ?side1 ?side2 A14.out).mono ?_); (case side1 => repeat (first | exact (Kd.C_below HR164_0.out (bel1 HB GE161)) | (with_reducible refine Kd.C_alloc ?_ _) | (with_reducible refine Kd.C_drewN ?_ _) | (with_reducible refine Kd.C_drew ?_))); (case side2 => exact HC164_0.out); rintro e w' ⟨rfl, ⟨nd, rfl⟩⟩; (try first | exact ⟨rfl, _, World.drewN_drewN _ _ _⟩ | exact ⟨rfl, _, Eq.trans (World.drewN_drewN _ _ _) (congrArg (World.drewN _) (Nat.add_assoc _ _ _))⟩)))
            repeat (go_quiet (first | (go_at_call 55; (with_reducible refine (impl_earliestOf.calls _ _ (rd_L1 l0_0 x14_1) t163 _ ?side1 ?side2 A8.out).mono ?_); (case side1 => exact cdl (Kd.C_below HR162_0.out HB.out)); (case side2 => exact HC162_0.out); rintro e w' ⟨rfl, ⟨nd, rfl⟩⟩; (try first | exact ⟨rfl, _, World.drewN_drewN _ _ _⟩ | exact ⟨rfl, _, Eq.trans (World.drewN_drewN _ _ _) (congrArg (World.drewN _) (Nat.add_assoc _ _ _))⟩); have hcz16_0 : wr.cell? ⟨gb161, 0, none⟩ = some (.slice (some ad162) l0_0.length c0_0) := (blk_cell BK161.out 0).trans rfl; have hfz16_0 := blk_frozen BK161.out 0; have p164 : 0 ≤ (x5_1 : Int) := oda; have q164 : x5_1 < (l0_0.length : Int) := oda; obtain ⟨ad164, A164_0, c164_0, e164, hx164_0, hl164_0, hi164_0⟩ := at_L1 HR0_0.out x5_1 p164 q164; obtain rfl : ad162 = ad164 := (by injection e164); replace hx164_0 := cel HB hx164_0; have HR164_0 := Aside0.mk hi164_0; have HC164_0 := Aside0.mk hl164_0; clear hi164_0 hl164_0; replace p164 := eq_true p164; replace q164 := eq_true q164) | (go_at_call 55; (with_reducible refine (impl_earliestOf.calls _ _ (rd_L1 l0_0 x5_1) t165 _ ?side1 ?side2 A14.out).mono ?_); (case side1 => repeat (first | exact (Kd.C_below HR164_0.out (bel1 HB GE161)) | (with_reducible refine Kd.C_alloc ?_ _) | (with_reducible refine Kd.C_drewN ?_ _) | (with_reducible refine Kd.C_drew ?_))); (case side2 => exact HC164_0.out); rintro e w' ⟨rfl, ⟨nd, rfl⟩⟩; (try first | exact ⟨rfl, _, World.drewN_drewN _ _ _⟩ | exact ⟨rfl, _, Eq.trans (World.drewN_drewN _ _ _) (congrArg (World.drewN _) (Nat.add_assoc _ _ _))⟩))); try go_wp2_with (first | (go_at_call 55; (with_reducible refine (impl_earliestOf.calls _ _ (rd_L1 l0_0 x14_1) t163 _ ?side1 ?side2 A8.out).mono ?_); (case side1 => exact cdl (Kd.C_below HR162_0.out HB.out)); (case side2 => exact HC162_0.out); rintro e w' ⟨rfl, ⟨nd, rfl⟩⟩; (try first | exact ⟨rfl, _, World.drewN_drewN _ _ _⟩ | exact ⟨rfl, _, Eq.trans (World.drewN_drewN _ _ _) (congrArg (World.drewN _) (Nat.add_assoc _ _ _))⟩); have hcz16_0 : wr.cell? ⟨gb161, 0, none⟩ = some (.slice (some ad162) l0_0.length c0_0) := (blk_cell BK161.out 0).trans rfl; have hfz16_0 := blk_frozen BK161.out 0; have p164 : 0 ≤ (x5_1 : Int) := oda; have q164 : x5_1 < (l0_0.length : Int) := oda; obtain ⟨ad164, A164_0, c164_0, e164, hx164_0, hl164_0, hi164_0⟩ := at_L1 HR0_0.out x5_1 p164 q164; obtain rfl : ad162 = ad164 := (by injection e164); replace hx164_0 := cel HB hx164_0; have HR164_0 := Aside0.mk hi164_0; have HC164_0 := Aside0.mk hl164_0; clear hi164_0 hl164_0; replace p164 := eq_true p164; replace q164 := eq_true q164) | (go_at_call 55; (with_reducible refine (impl_earliestOf.calls _ _ (rd_L1 l0_0 x5_1) t165 _ ?side1 ?side2 A14.out).mono ?_); (case side1 => repeat (first | exact (Kd.C_below HR164_0.out (bel1 HB GE161)) | (with_reducible refine Kd.C_alloc ?_ _) | (with_reducible refine Kd.C_drewN ?_ _) | (with_reducible refine Kd.C_drew ?_))); (case side2 => exact HC164_0.out); rintro e w' ⟨rfl, ⟨nd, rfl⟩⟩; (try first | exact ⟨rfl, _, World.drewN_drewN _ _ _⟩ | exact ⟨rfl, _, Eq.trans (World.drewN_drewN _ _ _) (congrArg (World.drewN _) (Nat.add_assoc _ _ _))⟩))))
            go_roundg k1
            case measure => have := HK1.out; omega
            case rel => exact ⟨(x14_1), (wrap64 (x14_1 + 1)), (by first | rfl | (simp; done) | (simp [*]; done)), (by first | rfl | (simp; done) | (simp [*]; done)), H', ⟨by have := HK1.out; omega⟩, ⟨bkl BK161⟩, ⟨bel1 HB GE161⟩⟩
           ·rw [if_neg c15] at H
            have c15b0 : decide (t163 < t165) = false := decide_eq_false c15
            clear c15
            have H' := Aside0.mk H
            clear H
            have p162 : 0 ≤ (x14_1 : Int) := oda
            have q162 : x14_1 < (l0_0.length : Int) := oda
            obtain ⟨ad162, A162_0, c162_0, e162, hx162_0, hl162_0, hi162_0⟩ := at_L1 HR0_0.out x14_1 p162 q162
            cases e162
            replace hx162_0 := cel HB hx162_0
            have HR162_0 := Aside0.mk hi162_0
            have HC162_0 := Aside0.mk hl162_0
            clear hi162_0 hl162_0
            replace p162 := eq_true p162
            replace q162 := eq_true q162
            go_wp2_with (first | (go_at_call 55; (with_reducible refine (impl_earliestOf.calls _ _ (rd_L1 l0_0 x14_1) t163 _ ?side1 ?side2 A8.out).mono ?_); (case side1 => exact cdl (Kd.C_below HR162_0.out HB.out)); (case side2 => exact HC162_0.out); rintro e w' ⟨rfl, ⟨nd, rfl⟩⟩; (try first | exact ⟨rfl, _, World.drewN_drewN _ _ _⟩ | exact ⟨rfl, _, Eq.trans (World.drewN_drewN _ _ _) (congrArg (World.drewN _) (Nat.add_assoc _ _ _))⟩); have hcz17_0 : wr.cell? ⟨gb161, 0, none⟩ = some (.slice (some ad162) l0_0.length c0_0) := (blk_cell BK161.out 0).trans rfl; have hfz17_0 := blk_frozen BK161.out 0; have p164 : 0 ≤ (x5_1 : Int) := oda; have q164 : x5_1 < (l0_0.length : Int) := oda; obtain ⟨ad164, A164_0, c164_0, e164, hx164_0, hl164_0, hi164_0⟩ := at_L1 HR0_0.out x5_1 p164 q164; obtain rfl : ad162 = ad164 := (by injection e164); replace hx164_0 := cel HB hx164_0; have HR164_0 := Aside0.mk hi164_0; have HC164_0 := Aside0.mk hl164_0; clear hi164_0 hl164_0; replace p164 := eq_true p164; replace q164 := eq_true q164) | (go_at_call 55; (with_reducible refine (impl_earliestOf.calls _ _ (rd_L1 l0_0 x5_1) t165 _ ?side1 ?side2 A14.out).mono ?_); (case side1 => repeat (first | exact (Kd.C_below HR164_0.out (bel1 HB GE161)) | (with_reducible refine Kd.C_alloc ?_ _) | (with_reducible refine Kd.C_drewN ?_ _) | (with_reducible refine Kd.C_drew ?_))); (case side2 => exact HC164_0.out); rintro e w' ⟨rfl, ⟨nd, rfl⟩⟩; (try first | exact ⟨rfl, _, World.drewN_drewN _ _ _⟩ | exact ⟨rfl, _, Eq.trans (World.drewN_drewN _ _ _) (congrArg (World.drewN _) (Nat.add_assoc _ _ _))⟩)))
            repeat (go_quiet (first | (go_at_call 55; (with_reducible refine (impl_earliestOf.calls _ _ (rd_L1 l0_0 x14_1) t163 _ ?side1 ?side2 A8.out).mono ?_); (case side1 => exact cdl (Kd.C_below HR162_0.out HB.out)); (case side2 => exact HC162_0.out); rintro e w' ⟨rfl, ⟨nd, rfl⟩⟩; (try first | exact ⟨rfl, _, World.drewN_drewN _ _ _⟩ | exact ⟨rfl, _, Eq.trans (World.drewN_drewN _ _ _) (congrArg (World.drewN _) (Nat.add_assoc _ _ _))⟩); have hcz17_0 : wr.cell? ⟨gb161, 0, none⟩ = some (.slice (some ad162) l0_0.length c0_0) := (blk_cell BK161.out 0).trans rfl; have hfz17_0 := blk_frozen BK161.out 0; have p164 : 0 ≤ (x5_1 : Int) := oda; have q164 : x5_1 < (l0_0.length : Int) := oda; obtain ⟨ad164, A164_0, c164_0, e164, hx164_0, hl164_0, hi164_0⟩ := at_L1 HR0_0.out x5_1 p164 q164; obtain rfl : ad162 = ad164 := (by injection e164); replace hx164_0 := cel HB hx164_0; have HR164_0 := Aside0.mk hi164_0; have HC164_0 := Aside0.mk hl164_0; clear hi164_0 hl164_0; replace p164 := eq_true p164; replace q164 := eq_true q164) | (go_at_call 55; (with_reducible refine (impl_earliestOf.calls _ _ (rd_L1 l0_0 x5_1) t165 _ ?side1 ?side2 A14.out).mono ?_); (case side1 => repeat (first | exact (Kd.C_below HR164_0.out (bel1 HB GE161)) | (with_reducible refine Kd.C_alloc ?_ _) | (with_reducible refine Kd.C_drewN ?_ _) | (with_reducible refine Kd.C_drew ?_))); (case side2 => exact HC164_0.out); rintro e w' ⟨rfl, ⟨nd, rfl⟩⟩; (try first | exact ⟨rfl, _, World.drewN_drewN _ _ _⟩ | exact ⟨rfl, _, Eq.trans (World.drewN_drewN _ _ _) (congrArg (World.drewN _) (Nat.add_assoc _ _ _))⟩))); try go_wp2_with (first | (go_at_call 55; (with_reducible refine (impl_earliestOf.calls _ _ (rd_L1 l0_0 x14_1) t163 _ ?side1 ?side2 A8.out).mono ?_); (case side1 => exact cdl (Kd.C_below HR162_0.out HB.out)); (case side2 => exact HC162_0.out); rintro e w' ⟨rfl, ⟨nd, rfl⟩⟩; (try first | exact ⟨rfl, _, World.drewN_drewN _ _ _⟩ | exact ⟨rfl, _, Eq.trans (World.drewN_drewN _ _ _) (congrArg (World.drewN _) (Nat.add_assoc _ _ _))⟩); have hcz17_0 : wr.cell? ⟨gb161, 0, none⟩ = some (.slice (some ad162) l0_0.length c0_0) := (blk_cell BK161.out 0).trans rfl; have hfz17_0 := blk_frozen BK161.out 0; have p164 : 0 ≤ (x5_1 : Int) := oda; have q164 : x5_1 < (l0_0.length : Int) := oda; obtain ⟨ad164, A164_0, c164_0, e164, hx164_0, hl164_0, hi164_0⟩ := at_L1 HR0_0.out x5_1 p164 q164; obtain rfl : ad162 = ad164 := (by injection e164); replace hx164_0 := cel HB hx164_0; have HR164_0 := Aside0.mk hi164_0; have HC164_0 := Aside0.mk hl164_0; clear hi164_0 hl164_0; replace p164 := eq_true p164; replace q164 := eq_true q164) | (go_at_call 55; (with_reducible refine (impl_earliestOf.calls _ _ (rd_L1 l0_0 x5_1) t165 _ ?side1 ?side2 A14.out).mono ?_); (case side1 => repeat (first | exact (Kd.C_below HR164_0.out (bel1 HB GE161)) | (with_reducible refine Kd.C_alloc ?_ _) | (with_reducible refine Kd.C_drewN ?_ _) | (with_reducible refine Kd.C_drew ?_))); (case side2 => exact HC164_0.out); rintro e w' ⟨rfl, ⟨nd, rfl⟩⟩; (try first | exact ⟨rfl, _, World.drewN_drewN _ _ _⟩ | exact ⟨rfl, _, Eq.trans (World.drewN_drewN _ _ _) (congrArg (World.drewN _) (Nat.add_assoc _ _ _))⟩))))
            go_roundg k1
            case measure => have := HK1.out; omega
            case rel => exact ⟨(x5_1), (wrap64 (x14_1 + 1)), (by first | rfl | (simp; done) | (simp [*]; done)), (by first | rfl | (simp; done) | (simp [*]; done)), H', ⟨by have := HK1.out; omega⟩, ⟨bkl BK161⟩, ⟨bel1 HB GE161⟩⟩
          ·rw [if_neg c13] at H
           exact absurd H (by simp)
         ·rw [if_neg c12] at H
          exact absurd H (by simp)
       ·rw [if_neg c10] at H
        have c10b0 : decide (a1 < t163) = false := decide_eq_false c10
        clear c10
        have H' := Aside0.mk H
        clear H
        have p162 : 0 ≤ (x14_1 : Int) := oda
        have q162 : x14_1 < (l0_0.length : Int) := oda
        obtain ⟨ad162, A162_0, c162_0, e162, hx162_0, hl162_0, hi162_0⟩ := at_L1 HR0_0.out x14_1 p162 q162
        cases e162
        replace hx162_0 := cel HB hx162_0
        have HR162_0 := Aside0.mk hi162_0
        have HC162_0 := Aside0.mk hl162_0
        clear hi162_0 hl162_0
        replace p162 := eq_true p162
        replace q162 := eq_true q162
        go_wp2_with (first | (go_at_call 55; (with_reducible refine (impl_earliestOf.calls _ _ (rd_L1 l0_0 x14_1) t163 _ ?side1 ?side2 A8.out).mono ?_); (case side1 => exact cdl (Kd.C_below HR162_0.out HB.out)); (case side2 => exact HC162_0.out); rintro e w' ⟨rfl, ⟨nd, rfl⟩⟩; (try first | exact ⟨rfl, _, World.drewN_drewN _ _ _⟩ | exact ⟨rfl, _, Eq.trans (World.drewN_drewN _ _ _) (congrArg (World.drewN _) (Nat.add_assoc _ _ _))⟩)))
        repeat (go_quiet (first | (go_at_call 55; (with_reducible refine (impl_earliestOf.calls _ _ (rd_L1 l0_0 x14_1) t163 _ ?side1 ?side2 A8.out).mono ?_); (case side1 => exact cdl (Kd.C_below HR162_0.out HB.out)); (case side2 => exact HC162_0.out); rintro e w' ⟨rfl, ⟨nd, rfl⟩⟩; (try first | exact ⟨rfl, _, World.drewN_drewN _ _ _⟩ | exact ⟨rfl, _, Eq.trans (World.drewN_drewN _ _ _) (congrArg (World.drewN _) (Nat.add_assoc _ _ _))⟩))); try go_wp2_with (first | (go_at_call 55; (with_reducible refine (impl_earliestOf.calls _ _ (rd_L1 l0_0 x14_1) t163 _ ?side1 ?side2 A8.out).mono ?_); (case side1 => exact cdl (Kd.C_below HR162_0.out HB.out)); (case side2 => exact HC162_0.out); rintro e w' ⟨rfl, ⟨nd, rfl⟩⟩; (try first | exact ⟨rfl, _, World.drewN_drewN _ _ _⟩ | exact ⟨rfl, _, Eq.trans (World.drewN_drewN _ _ _) (congrArg (World.drewN _) (Nat.add_assoc _ _ _))⟩))))
        go_roundg k1
        case measure => have := HK1.out; omega
        case rel => exact ⟨(x5_1), (wrap64 (x14_1 + 1)), (by first | rfl | (simp; done) | (simp [*]; done)), (by first | rfl | (simp; done) | (simp [*]; done)), H', ⟨by have := HK1.out; omega⟩, ⟨bkl BK161⟩, ⟨bel1 HB GE161⟩⟩
      ·rw [if_neg c9] at H
       have c9b0 : decide (((rd_L1 l0_0 x14_1).length : Int) < 4) = false := decide_eq_false c9
       have c9b1 : decide ((rd_L1 l0_0 x14_1).length < 4) = false := decide_eq_false (by omega)
       clear c9
       have H' := Aside0.mk H
       clear H
       have p162 : 0 ≤ (x14_1 : Int) := oda
       have q162 : x14_1 < (l0_0.length : Int) := oda
       obtain ⟨ad162, A162_0, c162_0, e162, hx162_0, hl162_0, hi162_0⟩ := at_L1 HR0_0.out x14_1 p162 q162
       cases e162
       replace hx162_0 := cel HB hx162_0
       have HR162_0 := Aside0.mk hi162_0
       have HC162_0 := Aside0.mk hl162_0
       clear hi162_0 hl162_0
       replace p162 := eq_true p162
       replace q162 := eq_true q162
       go_wp2_with (first | (go_at_call 55; (with_reducible refine (impl_earliestOf.calls _ _ (rd_L1 l0_0 x14_1) t163 _ ?side1 ?side2 A8.out).mono ?_); (case side1 => exact cdl (Kd.C_below HR162_0.out HB.out)); (case side2 => exact HC162_0.out); rintro e w' ⟨rfl, ⟨nd, rfl⟩⟩; (try first | exact ⟨rfl, _, World.drewN_drewN _ _ _⟩ | exact ⟨rfl, _, Eq.trans (World.drewN_drewN _ _ _) (congrArg (World.drewN _) (Nat.add_assoc _ _ _))⟩)))
       repeat (go_quiet (first | (go_at_call 55; (with_reducible refine (impl_earliestOf.calls _ _ (rd_L1 l0_0 x14_1) t163 _ ?side1 ?side2 A8.out).mono ?_); (case side1 => exact cdl (Kd.C_below HR162_0.out HB.out)); (case side2 => exact HC162_0.out); rintro e w' ⟨rfl, ⟨nd, rfl⟩⟩; (try first | exact ⟨rfl, _, World.drewN_drewN _ _ _⟩ | exact ⟨rfl, _, Eq.trans (World.drewN_drewN _ _ _) (congrArg (World.drewN _) (Nat.add_assoc _ _ _))⟩))); try go_wp2_with (first | (go_at_call 55; (with_reducible refine (impl_earliestOf.calls _ _ (rd_L1 l0_0 x14_1) t163 _ ?side1 ?side2 A8.out).mono ?_); (case side1 => exact cdl (Kd.C_below HR162_0.out HB.out)); (case side2 => exact HC162_0.out); rintro e w' ⟨rfl, ⟨nd, rfl⟩⟩; (try first | exact ⟨rfl, _, World.drewN_drewN _ _ _⟩ | exact ⟨rfl, _, Eq.trans (World.drewN_drewN _ _ _) (congrArg (World.drewN _) (Nat.add_assoc _ _ _))⟩))))
       go_roundg k1
       case measure => have := HK1.out; omega
       case rel => exact ⟨(x5_1), (wrap64 (x14_1 + 1)), (by first | rfl | (simp; done) | (simp [*]; done)), (by first | rfl | (simp; done) | (simp [*]; done)), H', ⟨by have := HK1.out; omega⟩, ⟨bkl BK161⟩, ⟨bel1 HB GE161⟩⟩
     ·rw [if_neg c7] at H
      exact absurd H (by simp)
    ·rw [if_neg c6] at H
     exact absurd H (by simp)
   ·rw [if_neg c5] at H
    have c5b0 : decide (x14_1 < (l0_0.length : Int)) = false := decide_eq_false c5
    clear c5
    by_cases c18 : x5_1 ≥ 0
    ·rw [if_pos c18] at H
     have c18b0 : decide (0 ≤ x5_1) = true := decide_eq_true c18
     clear c18
     obtain rfl := Option.some.inj H
     go_wp2
     repeat (go_quiet (fail); try go_wp2)
     go_ret
     exact ⟨by first | rfl | (simp [errW_none, errW_some] <;> rfl) | (simp [*, errW_none, errW_some] <;> rfl), bel1 HB GE161⟩
    ·rw [if_neg c18] at H
     have c18b0 : decide (0 ≤ x5_1) = false := decide_eq_false c18
     clear c18
     have H' := Aside0.mk H
     clear H
     have hcz19_0 : wr.cell? ⟨gb161, 0, none⟩ = some (.slice A0_0 l0_0.length c0_0) := (blk_cell BK161.out 0).trans rfl
     have hfz19_0 := blk_frozen BK161.out 0
     go_wp2
     repeat (go_quiet (fail); try go_wp2)
     go_loopg [5, 51] k1 (fun kq v5 v51 w' => ∃ (x5_2 : Int) (x51_2 : Int), v5 = .int .i64 x5_2 ∧ v51 = .int .i64 x51_2 ∧ Aside0 (impl_chooseStack.l1 kq x5_2 l0_0 (l0_0.length : Int) x51_2 l0_0 = some r) ∧ Aside0 (kq ≤ k1) ∧ Aside0 (w'.heap[gb161]? = some (.cells #[(.slice A0_0 l0_0.length c0_0)] 28 (0, 0))) ∧ Aside0 (Below w.heap.size w w'))
     case atStart => exact ⟨(x5_1), (0), (by first | rfl | (simp; done) | (simp [*]; done)), (by first | rfl | (simp; done) | (simp [*]; done)), H', ⟨Nat.le_refl _⟩, ⟨bkl BK161⟩, ⟨bel1 HB GE161⟩⟩
     case round =>
      clear H'
      try clear c1
      try clear p1
      try clear q1
      try clear hx1
      try clear p2
      try clear c5
      try clear c5b0
      try clear c6
      try clear c6b0
      try clear p6
      try clear c7
      try clear c7b0
      try clear c9
      try clear c9b0
      try clear c9b1
      try clear c10
      try clear c10b0
      try clear c11
      try clear c11b0
      try clear c12
      try clear c12b0
      try clear c13
      try clear c13b0
      try clear c15
      try clear c15b0
      try clear c16
      try clear p16
      try clear q16
      try clear hx16
      try clear c18
      try clear c18b0
      try clear hcz16_0
      try clear hcz17_0
      try clear hcz19_0
      try clear hcz4_0
      try clear hfz16_0
      try clear hfz17_0
      try clear hfz19_0
      try clear hfz4_0
      try clear hx162_0
      try clear hx164_0
      try clear p162
      try clear p164
      try clear p2
      try clear q162
      try clear q164
      obtain ⟨x5_2, x51_2, rfl, rfl, HA, HK2, BK161, HB⟩ := hrel
      cases gk with
      | zero => exact absurd HA.out (by simp [impl_chooseStack.l1])
      | succ k2 =>
       have H := HA.out
       clear HA
       simp only [impl_chooseStack.l1] at H
       by_cases c20 : x51_2 < (l0_0.length : Int)
       ·rw [if_pos c20] at H
        have c20b0 : decide (x51_2 < (l0_0.length : Int)) = true := decide_eq_true c20
        clear c20
        by_cases c21 : 0 ≤ x51_2
        ·rw [if_pos c21] at H
         have c21b0 : decide (0 ≤ x51_2) = true := decide_eq_true c21
         clear c21
         by_cases c22 : x51_2 < (l0_0.length : Int)
         ·rw [if_pos c22] at H
          have c22b0 : decide (x51_2 < (l0_0.length : Int)) = true := decide_eq_true c22
          clear c22
          by_cases c23 : ((rd_L1 l0_0 x51_2).length : Int) < 4
          ·rw [if_pos c23] at H
           have c23b0 : decide (((rd_L1 l0_0 x51_2).length : Int) < 4) = true := decide_eq_true c23
           have c23b1 : decide ((rd_L1 l0_0 x51_2).length < 4) = true := decide_eq_true (by omega)
           clear c23
           by_cases c24 : x5_2 < 0
           ·rw [if_pos c24] at H
            have c24b0 : decide (x5_2 < 0) = true := decide_eq_true c24
            clear c24
            have H' := Aside0.mk H
            clear H
            have p166 : 0 ≤ (x51_2 : Int) := oda
            have q166 : x51_2 < (l0_0.length : Int) := oda
            obtain ⟨ad166, A166_0, c166_0, e166, hx166_0, hl166_0, hi166_0⟩ := at_L1 HR0_0.out x51_2 p166 q166
            cases e166
            replace hx166_0 := cel HB hx166_0
            have HR166_0 := Aside0.mk hi166_0
            have HC166_0 := Aside0.mk hl166_0
            clear hi166_0 hl166_0
            replace p166 := eq_true p166
            replace q166 := eq_true q166
            go_wp2
            repeat (go_quiet (fail); try go_wp2)
            go_roundg k2
            case measure => have := HK1.out; have := HK2.out; omega
            case rel => exact ⟨(x51_2), (wrap64 (x51_2 + 1)), (by first | rfl | (simp; done) | (simp [*]; done)), (by first | rfl | (simp; done) | (simp [*]; done)), H', ⟨by have := HK1.out; have := HK2.out; omega⟩, ⟨bkl BK161⟩, ⟨bel1 HB GE161⟩⟩
           ·rw [if_neg c24] at H
            have c24b0 : decide (x5_2 < 0) = false := decide_eq_false c24
            clear c24
            replace H := Option.bind_eq_some_iff.mp H
            obtain ⟨t167, A250, H⟩ := H
            replace H : (if 0 ≤ x5_2 then (if x5_2 < (l0_0.length : Int) then ((impl_earliestOf.f (rd_L1 l0_0 x5_2)).bind fun t169 => (if t167 > t169 then (impl_chooseStack.l1 k2 x51_2 l0_0 (l0_0.length : Int) (wrap64 (x51_2 + 1)) l0_0) else (impl_chooseStack.l1 k2 x5_2 l0_0 (l0_0.length : Int) (wrap64 (x51_2 + 1)) l0_0))) else (none)) else (none)) = some r := H
            have A25 := Aside0.mk A250
            clear A250
            by_cases c26 : 0 ≤ x5_2
            ·rw [if_pos c26] at H
             have c26b0 : decide (0 ≤ x5_2) = true := decide_eq_true c26
             clear c26
             by_cases c27 : x5_2 < (l0_0.length : Int)
             ·rw [if_pos c27] at H
              have c27b0 : decide (x5_2 < (l0_0.length : Int)) = true := decide_eq_true c27
              clear c27
              replace H := Option.bind_eq_some_iff.mp H
              obtain ⟨t169, A280, H⟩ := H
              replace H : (if t167 > t169 then (impl_chooseStack.l1 k2 x51_2 l0_0 (l0_0.length : Int) (wrap64 (x51_2 + 1)) l0_0) else (impl_chooseStack.l1 k2 x5_2 l0_0 (l0_0.length : Int) (wrap64 (x51_2 + 1)) l0_0)) = some r := H
              have A28 := Aside0.mk A280
              clear A280
              by_cases c29 : t167 > t169
              ·rw [if_pos c29] at H
               have c29b0 : decide (t169 < t167) = true := decide_eq_true c29
               clear c29
               have H' := Aside0.mk H
               clear H
               have p166 : 0 ≤ (x51_2 : Int) := oda
               have q166 : x51_2 < (l0_0.length : Int) := oda
               obtain ⟨ad166, A166_0, c166_0, e166, hx166_0, hl166_0, hi166_0⟩ := at_L1 HR0_0.out x51_2 p166 q166
               cases e166
               replace hx166_0 := cel HB hx166_0
               have HR166_0 := Aside0.mk hi166_0
               have HC166_0 := Aside0.mk hl166_0
               clear hi166_0 hl166_0
               replace p166 := eq_true p166
               replace q166 := eq_true q166
               go_wp2_with (first | (go_at_call 55; (with_reducible refine (impl_earliestOf.calls _ _ (rd_L1 l0_0 x51_2) t167 _ ?side1 ?side2 A25.out).mono ?_); (case side1 => exact cdl (Kd.C_below HR166_0.out HB.out)); (case side2 => exact HC166_0.out); rintro e w' ⟨rfl, ⟨nd, rfl⟩⟩; (try first | exact ⟨rfl, _, World.drewN_drewN _ _ _⟩ | exact ⟨rfl, _, Eq.trans (World.drewN_drewN _ _ _) (congrArg (World.drewN _) (Nat.add_assoc _ _ _))⟩); have hcz30_0 : wr.cell? ⟨gb161, 0, none⟩ = some (.slice (some ad166) l0_0.length c0_0) := (blk_cell BK161.out 0).trans rfl; have hfz30_0 := blk_frozen BK161.out 0; have p168 : 0 ≤ (x5_2 : Int) := oda; have q168 : x5_2 < (l0_0.length : Int) := oda; obtain ⟨ad168, A168_0, c168_0, e168, hx168_0, hl168_0, hi168_0⟩ := at_L1 HR0_0.out x5_2 p168 q168; obtain rfl : ad166 = ad168 := (by injection e168); replace hx168_0 := cel HB hx168_0; have HR168_0 := Aside0.mk hi168_0; have HC168_0 := Aside0.mk hl168_0; clear hi168_0 hl168_0; replace p168 := eq_true p168; replace q168 := eq_true q168) | (go_at_call 55; (with_reducible refine (impl_earliestOf.calls _ _ (rd_L1 l0_0 x5_2) t169 _ ?side1 ?side2 A28.out).mono ?_); (case side1 => repeat (first | exact (Kd.C_below HR168_0.out (bel1 HB GE161)) | (with_reducible refine Kd.C_alloc ?_ _) | (with_reducible refine Kd.C_drewN ?_ _) | (with_reducible refine Kd.C_drew ?_))); (case side2 => exact HC168_0.out); rintro e w' ⟨rfl, ⟨nd, rfl⟩⟩; (try first | exact ⟨rfl, _, World.drewN_drewN _ _ _⟩ | exact ⟨rfl, _, Eq.trans (World.drewN_drewN _ _ _) (congrArg (World.drewN _) (Nat.add_assoc _ _ _))⟩)))
               repeat (go_quiet (first | (go_at_call 55; (with_reducible refine (impl_earliestOf.calls _ _ (rd_L1 l0_0 x51_2) t167 _ ?side1 ?side2 A25.out).mono ?_); (case side1 => exact cdl (Kd.C_below HR166_0.out HB.out)); (case side2 => exact HC166_0.out); rintro e w' ⟨rfl, ⟨nd, rfl⟩⟩; (try first | exact ⟨rfl, _, World.drewN_drewN _ _ _⟩ | exact ⟨rfl, _, Eq.trans (World.drewN_drewN _ _ _) (congrArg (World.drewN _) (Nat.add_assoc _ _ _))⟩); have hcz30_0 : wr.cell? ⟨gb161, 0, none⟩ = some (.slice (some ad166) l0_0.length c0_0) := (blk_cell BK161.out 0).trans rfl; have hfz30_0 := blk_frozen BK161.out 0; have p168 : 0 ≤ (x5_2 : Int) := oda; have q168 : x5_2 < (l0_0.length : Int) := oda; obtain ⟨ad168, A168_0, c168_0, e168, hx168_0, hl168_0, hi168_0⟩ := at_L1 HR0_0.out x5_2 p168 q168; obtain rfl : ad166 = ad168 := (by injection e168); replace hx168_0 := cel HB hx168_0; have HR168_0 := Aside0.mk hi168_0; have HC168_0 := Aside0.mk hl168_0; clear hi168_0 hl168_0; replace p168 := eq_true p168; replace q168 := eq_true q168) | (go_at_call 55; (with_reducible refine (impl_earliestOf.calls _ _ (rd_L1 l0_0 x5_2) t169 _ ?side1 ?side2 A28.out).mono ?_); (case side1 => repeat (first | exact (Kd.C_below HR168_0.out (bel1 HB GE161)) | (with_reducible refine Kd.C_alloc ?_ _) | (with_reducible refine Kd.C_drewN ?_ _) | (with_reducible refine Kd.C_drew ?_))); (case side2 => exact HC168_0.out); rintro e w' ⟨rfl, ⟨nd, rfl⟩⟩; (try first | exact ⟨rfl, _, World.drewN_drewN _ _ _⟩ | exact ⟨rfl, _, Eq.trans (World.drewN_drewN _ _ _) (congrArg (World.drewN _) (Nat.add_assoc _ _ _))⟩))); try go_wp2_with (first | (go_at_call 55; (with_reducible refine (impl_earliestOf.calls _ _ (rd_L1 l0_0 x51_2) t167 _ ?side1 ?side2 A25.out).mono ?_); (case side1 => exact cdl (Kd.C_below HR166_0.out HB.out)); (case side2 => exact HC166_0.out); rintro e w' ⟨rfl, ⟨nd, rfl⟩⟩; (try first | exact ⟨rfl, _, World.drewN_drewN _ _ _⟩ | exact ⟨rfl, _, Eq.trans (World.drewN_drewN _ _ _) (congrArg (World.drewN _) (Nat.add_assoc _ _ _))⟩); have hcz30_0 : wr.cell? ⟨gb161, 0, none⟩ = some (.slice (some ad166) l0_0.length c0_0) := (blk_cell BK161.out 0).trans rfl; have hfz30_0 := blk_frozen BK161.out 0; have p168 : 0 ≤ (x5_2 : Int) := oda; have q168 : x5_2 < (l0_0.length : Int) := oda; obtain ⟨ad168, A168_0, c168_0, e168, hx168_0, hl168_0, hi168_0⟩ := at_L1 HR0_0.out x5_2 p168 q168; obtain rfl : ad166 = ad168 := (by injection e168); replace hx168_0 := cel HB hx168_0; have HR168_0 := Aside0.mk hi168_0; have HC168_0 := Aside0.mk hl168_0; clear hi168_0 hl168_0; replace p168 := eq_true p168; replace q168 := eq_true q168) | (go_at_call 55; (with_reducible refine (impl_earliestOf.calls _ _ (rd_L1 l0_0 x5_2) t169 _ ?side1 ?side2 A28.out).mono ?_); (case side1 => repeat (first | exact (Kd.C_below HR168_0.out (bel1 HB GE161)) | (with_reducible refine Kd.C_alloc ?_ _) | (with_reducible refine Kd.C_drewN ?_ _) | (with_reducible refine Kd.C_drew ?_))); (case side2 => exact HC168_0.out); rintro e w' ⟨rfl, ⟨nd, rfl⟩⟩; (try first | exact ⟨rfl, _, World.drewN_drewN _ _ _⟩ | exact ⟨rfl, _, Eq.trans (World.drewN_drewN _ _ _) (congrArg (World.drewN _) (Nat.add_assoc _ _ _))⟩))))
               go_roundg k2
               case measure => have := HK1.out; have := HK2.out; omega
               case rel => exact ⟨(x51_2), (wrap64 (x51_2 + 1)), (by first | rfl | (simp; done) | (simp [*]; done)), (by first | rfl | (simp; done) | (simp [*]; done)), H', ⟨by have := HK1.out; have := HK2.out; omega⟩, ⟨bkl BK161⟩, ⟨bel1 HB GE161⟩⟩
              ·rw [if_neg c29] at H
               have c29b0 : decide (t169 < t167) = false := decide_eq_false c29
               clear c29
               have H' := Aside0.mk H
               clear H
               have p166 : 0 ≤ (x51_2 : Int) := oda
               have q166 : x51_2 < (l0_0.length : Int) := oda
               obtain ⟨ad166, A166_0, c166_0, e166, hx166_0, hl166_0, hi166_0⟩ := at_L1 HR0_0.out x51_2 p166 q166
               cases e166
               replace hx166_0 := cel HB hx166_0
               have HR166_0 := Aside0.mk hi166_0
               have HC166_0 := Aside0.mk hl166_0
               clear hi166_0 hl166_0
               replace p166 := eq_true p166
               replace q166 := eq_true q166
               go_wp2_with (first | (go_at_call 55; (with_reducible refine (impl_earliestOf.calls _ _ (rd_L1 l0_0 x51_2) t167 _ ?side1 ?side2 A25.out).mono ?_); (case side1 => exact cdl (Kd.C_below HR166_0.out HB.out)); (case side2 => exact HC166_0.out); rintro e w' ⟨rfl, ⟨nd, rfl⟩⟩; (try first | exact ⟨rfl, _, World.drewN_drewN _ _ _⟩ | exact ⟨rfl, _, Eq.trans (World.drewN_drewN _ _ _) (congrArg (World.drewN _) (Nat.add_assoc _ _ _))⟩); have hcz31_0 : wr.cell? ⟨gb161, 0, none⟩ = some (.slice (some ad166) l0_0.length c0_0) := (blk_cell BK161.out 0).trans rfl; have hfz31_0 := blk_frozen BK161.out 0; have p168 : 0 ≤ (x5_2 : Int) := oda; have q168 : x5_2 < (l0_0.length : Int) := oda; obtain ⟨ad168, A168_0, c168_0, e168, hx168_0, hl168_0, hi168_0⟩ := at_L1 HR0_0.out x5_2 p168 q168; obtain rfl : ad166 = ad168 := (by injection e168); replace hx168_0 := cel HB hx168_0; have HR168_0 := Aside0.mk hi168_0; have HC168_0 := Aside0.mk hl168_0; clear hi168_0 hl168_0; replace p168 := eq_true p168; replace q168 := eq_true q168) | (go_at_call 55; (with_reducible refine (impl_earliestOf.calls _ _ (rd_L1 l0_0 x5_2) t169 _ ?side1 ?side2 A28.out).mono ?_); (case side1 => repeat (first | exact (Kd.C_below HR168_0.out (bel1 HB GE161)) | (with_reducible refine Kd.C_alloc ?_ _) | (with_reducible refine Kd.C_drewN ?_ _) | (with_reducible refine Kd.C_drew ?_))); (case side2 => exact HC168_0.out); rintro e w' ⟨rfl, ⟨nd, rfl⟩⟩; (try first | exact ⟨rfl, _, World.drewN_drewN _ _ _⟩ | exact ⟨rfl, _, Eq.trans (World.drewN_drewN _ _ _) (congrArg (World.drewN _) (Nat.add_assoc _ _ _))⟩)))
               repeat (go_quiet (first | (go_at_call 55; (with_reducible refine (impl_earliestOf.calls _ _ (rd_L1 l0_0 x51_2) t167 _ ?side1 ?side2 A25.out).mono ?_); (case side1 => exact cdl (Kd.C_below HR166_0.out HB.out)); (case side2 => exact HC166_0.out); rintro e w' ⟨rfl, ⟨nd, rfl⟩⟩; (try first | exact ⟨rfl, _, World.drewN_drewN _ _ _⟩ | exact ⟨rfl, _, Eq.trans (World.drewN_drewN _ _ _) (congrArg (World.drewN _) (Nat.add_assoc _ _ _))⟩); have hcz31_0 : wr.cell? ⟨gb161, 0, none⟩ = some (.slice (some ad166) l0_0.length c0_0) := (blk_cell BK161.out 0).trans rfl; have hfz31_0 := blk_frozen BK161.out 0; have p168 : 0 ≤ (x5_2 : Int) := oda; have q168 : x5_2 < (l0_0.length : Int) := oda; obtain ⟨ad168, A168_0, c168_0, e168, hx168_0, hl168_0, hi168_0⟩ := at_L1 HR0_0.out x5_2 p168 q168; obtain rfl : ad166 = ad168 := (by injection e168); replace hx168_0 := cel HB hx168_0; have HR168_0 := Aside0.mk hi168_0; have HC168_0 := Aside0.mk hl168_0; clear hi168_0 hl168_0; replace p168 := eq_true p168; replace q168 := eq_true q168) | (go_at_call 55; (with_reducible refine (impl_earliestOf.calls _ _ (rd_L1 l0_0 x5_2) t169 _ ?side1 ?side2 A28.out).mono ?_); (case side1 => repeat (first | exact (Kd.C_below HR168_0.out (bel1 HB GE161)) | (with_reducible refine Kd.C_alloc ?_ _) | (with_reducible refine Kd.C_drewN ?_ _) | (with_reducible refine Kd.C_drew ?_))); (case side2 => exact HC168_0.out); rintro e w' ⟨rfl, ⟨nd, rfl⟩⟩; (try first | exact ⟨rfl, _, World.drewN_drewN _ _ _⟩ | exact ⟨rfl, _, Eq.trans (World.drewN_drewN _ _ _) (congrArg (World.drewN _) (Nat.add_assoc _ _ _))⟩))); try go_wp2_with (first | (go_at_call 55; (with_reducible refine (impl_earliestOf.calls _ _ (rd_L1 l0_0 x51_2) t167 _ ?side1 ?side2 A25.out).mono ?_); (case side1 => exact cdl (Kd.C_below HR166_0.out HB.out)); (case side2 => exact HC166_0.out); rintro e w' ⟨rfl, ⟨nd, rfl⟩⟩; (try first | exact ⟨rfl, _, World.drewN_drewN _ _ _⟩ | exact ⟨rfl, _, Eq.trans (World.drewN_drewN _ _ _) (congrArg (World.drewN _) (Nat.add_assoc _ _ _))⟩); have hcz31_0 : wr.cell? ⟨gb161, 0, none⟩ = some (.slice (some ad166) l0_0.length c0_0) := (blk_cell BK161.out 0).trans rfl; have hfz31_0 := blk_frozen BK161.out 0; have p168 : 0 ≤ (x5_2 : Int) := oda; have q168 : x5_2 < (l0_0.length : Int) := oda; obtain ⟨ad168, A168_0, c168_0, e168, hx168_0, hl168_0, hi168_0⟩ := at_L1 HR0_0.out x5_2 p168 q168; obtain rfl : ad166 = ad168 := (by injection e168); replace hx168_0 := cel HB hx168_0; have HR168_0 := Aside0.mk hi168_0; have HC168_0 := Aside0.mk hl168_0; clear hi168_0 hl168_0; replace p168 := eq_true p168; replace q168 := eq_true q168) | (go_at_call 55; (with_reducible refine (impl_earliestOf.calls _ _ (rd_L1 l0_0 x5_2) t169 _ ?side1 ?side2 A28.out).mono ?_); (case side1 => repeat (first | exact (Kd.C_below HR168_0.out (bel1 HB GE161)) | (with_reducible refine Kd.C_alloc ?_ _) | (with_reducible refine Kd.C_drewN ?_ _) | (with_reducible refine Kd.C_drew ?_))); (case side2 => exact HC168_0.out); rintro e w' ⟨rfl, ⟨nd, rfl⟩⟩; (try first | exact ⟨rfl, _, World.drewN_drewN _ _ _⟩ | exact ⟨rfl, _, Eq.trans (World.drewN_drewN _ _ _) (congrArg (World.drewN _) (Nat.add_assoc _ _ _))⟩))))
               go_roundg k2
               case measure => have := HK1.out; have := HK2.out; omega
               case rel => exact ⟨(x5_2), (wrap64 (x51_2 + 1)), (by first | rfl | (simp; done) | (simp [*]; done)), (by first | rfl | (simp; done) | (simp [*]; done)), H', ⟨by have := HK1.out; have := HK2.out; omega⟩, ⟨bkl BK161⟩, ⟨bel1 HB GE161⟩⟩
             ·rw [if_neg c27] at H
              exact absurd H (by simp)
            ·rw [if_neg c26] at H
             exact absurd H (by simp)
          ·rw [if_neg c23] at H
           have c23b0 : decide (((rd_L1 l0_0 x51_2).length : Int) < 4) = false := decide_eq_false c23
           have c23b1 : decide ((rd_L1 l0_0 x51_2).length < 4) = false := decide_eq_false (by omega)
           clear c23
           have H' := Aside0.mk H
           clear H
           have p166 : 0 ≤ (x51_2 : Int) := oda
           have q166 : x51_2 < (l0_0.length : Int) := oda
           obtain ⟨ad166, A166_0, c166_0, e166, hx166_0, hl166_0, hi166_0⟩ := at_L1 HR0_0.out x51_2 p166 q166
           cases e166
           replace hx166_0 := cel HB hx166_0
           have HR166_0 := Aside0.mk hi166_0
           have HC166_0 := Aside0.mk hl166_0
           clear hi166_0 hl166_0
           replace p166 := eq_true p166
           replace q166 := eq_true q166
           go_wp2
           repeat (go_quiet (fail); try go_wp2)
           go_roundg k2
           case measure => have := HK1.out; have := HK2.out; omega
           case rel => exact ⟨(x5_2), (wrap64 (x51_2 + 1)), (by first | rfl | (simp; done) | (simp [*]; done)), (by first | rfl | (simp; done) | (simp [*]; done)), H', ⟨by have := HK1.out; have := HK2.out; omega⟩, ⟨bkl BK161⟩, ⟨bel1 HB GE161⟩⟩
         ·rw [if_neg c22] at H
          exact absurd H (by simp)
        ·rw [if_neg c21] at H
         exact absurd H (by simp)
       ·rw [if_neg c20] at H
        have c20b0 : decide (x51_2 < (l0_0.length : Int)) = false := decide_eq_false c20
        clear c20
        obtain rfl := Option.some.inj H
        go_wp2
        repeat (go_quiet (fail); try go_wp2)
        go_ret
        exact ⟨by first | rfl | (simp [errW_none, errW_some] <;> rfl) | (simp [*, errW_none, errW_some] <;> rfl), bel1 HB GE161⟩

/-! ### impl_PlaceAll: function 31 -/
def impl_PlaceAll.l0 : Nat → List Int → List Int → Int → Int → List (List Int) → Option ((List (List Int)) × List Int × Bool)
 | 0, _, _, _, _, _ => none
 | k + 1, x8, x20, x21, x22, x177000 => if x22 < x21 then (if 0 ≤ x22 then (if x22 < (x20.length : Int) then ((impl_chooseStack.f k x177000 (rd x20 x22)).bind fun t181 => (if t181 < 0 then (some (([] : List (List Int)), ([] : List Int), false)) else (if 0 ≤ t181 then (if t181 < (x177000.length : Int) then (if (rd_L1 x177000 t181).length < 17592186044416 then (if x8.length < 17592186044416 then (impl_PlaceAll.l0 k (x8 ++ [t181]) x20 x21 (wrap64 (x22 + 1)) (x177000.set (t181 : Int).toNat ((rd_L1 x177000 t181) ++ [rd x20 x22]))) else (none)) else (none)) else (none)) else (none)))) else (none)) else (none)) else (some (x177000, x8, true))
def impl_PlaceAll.f (k : Nat) (l0_0 : List (List Int)) (l1 : List Int) : Option ((List (List Int)) × List Int × Bool) := (impl_areArrivals.f k l0_0 l1).bind fun t172 => (if t172 = true then ((impl_ownYard.f k l0_0).bind fun t173 => (impl_PlaceAll.l0 k (([] : List Int)) l1 (l1.length : Int) 0 t173)) else (some (([] : List (List Int)), ([] : List Int), false)))
theorem impl_PlaceAll.mono_l : ∀ k, (∀ y0 y1 y2 y3 y4, LeO (impl_PlaceAll.l0 k y0 y1 y2 y3 y4) (impl_PlaceAll.l0 (k + 1) y0 y1 y2 y3 y4))
 | 0 => fun _ _ _ _ _ r h => by simp [impl_PlaceAll.l0] at h
 | k + 1 => by
  have ih0 := impl_PlaceAll.mono_l k
  ·intro y0 y1 y2 y3 y4
   unfold impl_PlaceAll.l0
   repeat' first
   | (with_reducible exact ih0 _ _ _ _ _)
   | (with_reducible exact impl_areArrivals.mono _ _ _)
   | (with_reducible exact impl_chooseStack.mono _ _ _)
   | (with_reducible exact impl_ownYard.mono _ _)
   | (with_reducible exact LeO.refl _)
   | (with_reducible exact LeO.none _)
   | (with_reducible refine LeO.ite ?_ ?_)
   | (with_reducible refine LeO.bind ?_ (fun _ => ?_))
   | exact ih0 _ _ _ _ _
   | exact impl_areArrivals.mono _ _ _
   | exact impl_chooseStack.mono _ _ _
   | exact impl_ownYard.mono _ _
   | exact LeO.none _
   | refine LeO.ite ?_ ?_
   | refine LeO.bind ?_ (fun _ => ?_)
theorem impl_PlaceAll.mono : ∀ a0 a1 k, LeO (impl_PlaceAll.f k a0 a1) (impl_PlaceAll.f (k + 1) a0 a1) := by
 intro a0 a1 k
 have ih0 := impl_PlaceAll.mono_l k
 unfold impl_PlaceAll.f
 repeat' first
   | (with_reducible exact ih0 _ _ _ _ _)
   | (with_reducible exact impl_areArrivals.mono _ _ _)
   | (with_reducible exact impl_chooseStack.mono _ _ _)
   | (with_reducible exact impl_ownYard.mono _ _)
   | (with_reducible exact LeO.refl _)
   | (with_reducible exact LeO.none _)
   | (with_reducible refine LeO.ite ?_ ?_)
   | (with_reducible refine LeO.bind ?_ (fun _ => ?_))
   | exact ih0 _ _ _ _ _
   | exact impl_areArrivals.mono _ _ _
   | exact impl_chooseStack.mono _ _ _
   | exact impl_ownYard.mono _ _
   | exact LeO.none _
   | refine LeO.ite ?_ ?_
   | refine LeO.bind ?_ (fun _ => ?_)
def impl_PlaceAll.T11 : Bool × List (List Nat × List Nat) := (true, [([], []), ([0], [0]), ([], []), ([], []), ([3], [3]), ([], []), ([4, 5], [4, 5]), ([6], [6]), ([], []), ([8], [8]), ([7, 9], [7, 9]), ([1, 2, 0, 1, 2, 3, 4, 5, 6, 7, 8, 9, 10], [1, 2]), ([11, 10, 10, 0, 1, 2, 3, 4, 5, 6, 7, 8, 9, 10], [10, 11])])
def impl_PlaceAll.B11 : List Nat := [0, 1, 0, 0, 8, 0, 56, 120, 0, 256, 1016, 2047, 4095]
theorem impl_PlaceAll.tab11 : rtab .any (opsOf Try.f31 11) = impl_PlaceAll.T11 := by kernel_rfl
theorem impl_PlaceAll.bits11 : waitsOk impl_PlaceAll.T11.2 impl_PlaceAll.B11 = true := by kernel_rfl
set_option maxHeartbeats 8000000 in
set_option maxRecDepth 100000 in
theorem impl_PlaceAll.calls (k : Nat) (A0_0 : Option Addr) (c0_0 : Nat) (l0_0 : List (List Int)) (A1 : Option Addr) (c1 : Nat) (l1 : List Int) (r1 : List (List Int)) (r2 : List Int) (r3 : Bool) (w : World) (hr0_0 : Kd.C (Kd.slice 3 (Kd.int .i64)) w A0_0 l0_0.length l0_0) (hc0_0 : l0_0.length ≤ c0_0) (hr1 : Kd.C (Kd.int .i64) w A1 l1.length l1) (hc1 : l1.length ≤ c1) (h : impl_PlaceAll.f k l0_0 l1 = some (r1, r2, r3)) :
  Calls Try.prog 31 #[.agg #[.slice A0_0 l0_0.length c0_0], .slice A1 l1.length c1] w fun e w' => ∃ v0_ v1_ : Value, e = .returned (.tuple #[.agg #[v0_], v1_, .bool r3]) ∧ Kd.S (Kd.slice 3 (Kd.int .i64)) 35 w' w.heap.size (fun k_ => some k_ ≠ (v1_ : Value).ownBlock) v0_ r1 ∧ Kd.R (Kd.int .i64) 3 w' w.heap.size (fun _ => True) v1_ r2 ∧ Below w.heap.size w w' := by
 have hu28 := Try.underlying28
 have HR0_0 := Aside0.mk hr0_0
 have HC0_0 := Aside0.mk hc0_0
 clear hr0_0 hc0_0
 have HR1 := Aside0.mk hr1
 have HC1 := Aside0.mk hc1
 clear hr1 hc1
 have HB := Aside0.mk (Below.refl w.heap.size w)
 have H : ((impl_areArrivals.f k l0_0 l1).bind fun t172 => (if t172 = true then ((impl_ownYard.f k l0_0).bind fun t173 => (impl_PlaceAll.l0 k (([] : List Int)) l1 (l1.length : Int) 0 t173)) else (some (([] : List (List Int)), ([] : List Int), false)))) = some (r1, r2, r3) := h
 clear h
 replace H := Option.bind_eq_some_iff.mp H
 obtain ⟨t172, A30, H⟩ := H
 replace H : (if t172 = true then ((impl_ownYard.f k l0_0).bind fun t173 => (impl_PlaceAll.l0 k (([] : List Int)) l1 (l1.length : Int) 0 t173)) else (some (([] : List (List Int)), ([] : List Int), false))) = some (r1, r2, r3) := H
 have A3 := Aside0.mk A30
 clear A30
 by_cases c4 : t172 = true
 ·subst c4
  have H1 : ((impl_ownYard.f k l0_0).bind fun t173 => (impl_PlaceAll.l0 k (([] : List Int)) l1 (l1.length : Int) 0 t173)) = some (r1, r2, r3) := by rw [if_pos rfl] at H; exact H
  clear H
  have H := H1
  clear H1
  replace H := Option.bind_eq_some_iff.mp H
  obtain ⟨t173, A50, H⟩ := H
  replace H : (impl_PlaceAll.l0 k (([] : List Int)) l1 (l1.length : Int) 0 t173) = some (r1, r2, r3) := H
  have A5 := Aside0.mk A50
  clear A50
  obtain ⟨y177, hy177⟩ : ∃ y_ : List Int, y_ = (([] : List Int)) := ⟨_, rfl⟩
  replace H : (impl_PlaceAll.l0 k y177 l1 (l1.length : Int) 0 t173) = some (r1, r2, r3) := by first | (rw [hy177]; with_reducible exact H) | (have H2_ := (Option.bind_some _ _).symm.trans H; rw [hy177]; with_reducible exact H2_) | (have H2_ := (Option.bind_some _ _).symm.trans H; with_reducible exact H2_) | with_reducible exact H | (rw [hy177]; exact H) | exact H
  have Ny177 := Aside0.mk hy177
  clear hy177
  have H' := Aside0.mk H
  clear H
  go_enter Try.func31, Try.ntmps31
  go_wp2_with (first | ((with_reducible refine gate_dst (N := 2) rfl ?_); refine box_event ?hg (N := 2) ?hd (cs := #[.slice A0_0 l0_0.length c0_0]) (t := 28) ?hr ?_; (case hd => rfl); (case hg => rfl); (case hr => first | (go_simp; done) | (go_simp; rfl)); intro gb170 hg w6 hbox hb; have n0_ := Aside0.mk (below_step (bel HB) hb); have n1_ := Aside0.mk (hbox); have n2_ := Aside0.mk ((by rw [hg]; exact (below_size (bel HB)) : w.heap.size ≤ gb170)); have n3_ := Aside0.mk ((by rw [hg]; exact (below_size (bel HB)) : w.heap.size ≤ gb170)); clear HB; have HB := n0_; have BK170 := n1_; have GW170 := n2_; have GE170 := n3_; clear n0_ n1_ n2_ n3_; clear hb hbox hg) | ((with_reducible refine gate_dst (N := 4) rfl ?_); refine box_event ?hg (N := 4) ?hd (cs := #[.slice none 0 0]) (t := 28) ?hr ?_; (case hd => rfl); (case hg => rfl); (case hr => first | (go_simp; done) | (go_simp; rfl)); intro gb171 hg w7 hbox hb; have n0_ := Aside0.mk (blk_below (g := gb170) (o := .cells #[.slice A0_0 l0_0.length c0_0] 28 (0, 0)) (bkl BK170) hb); have n1_ := Aside0.mk (below_step (bel1 HB GE170) hb); have n2_ := Aside0.mk (hbox); have n3_ := Aside0.mk ((by rw [hg]; exact (below_size (bel1 HB GE170)) : w.heap.size ≤ gb171)); have n4_ := Aside0.mk ((by rw [hg]; exact (below_size (bel1 HB GE170)) : w.heap.size ≤ gb171)); have n5_ := Aside0.mk ((by rw [hg]; exact Nat.ne_of_lt (blk_lt (g := gb170) (o := .cells #[.slice A0_0 l0_0.length c0_0] 28 (0, 0)) (bkl BK170)) : gb170 ≠ gb171)); have n6_ := Aside0.mk ((by rw [hg]; exact Nat.ne_of_gt (blk_lt (g := gb170) (o := .cells #[.slice A0_0 l0_0.length c0_0] 28 (0, 0)) (bkl BK170)) : gb171 ≠ gb170)); clear BK170; clear HB; have BK170 := n0_; have HB := n1_; have BK171 := n2_; have GW171 := n3_; have GE171 := n4_; have NB170_171 := n5_; have NB171_170 := n6_; clear n0_ n1_ n2_ n3_ n4_ n5_ n6_; clear hb hbox hg; have hnb8 := NB170_171.out; have hnc8 := NB171_170.out; have hcz9_0 : w7.cell? ⟨gb170, 0, none⟩ = some (.slice A0_0 l0_0.length c0_0) := (blk_cell BK170.out 0).trans rfl; have hfz9_0 := blk_frozen BK170.out 0) | ((with_reducible refine gate_callee (f := 62) rfl ?_); refine goesL_ (some 14) rfl rfl Try.func62 (by kernel_rfl) rfl #[.agg #[.slice A0_0 l0_0.length c0_0], .slice A1 l1.length c1] rfl gmp ?_; (with_reducible refine (impl_areArrivals.calls k _ _ l0_0 _ _ l1 true _ ?side1 ?side2 ?side3 ?side4 A3.out).mono ?_); (case side1 => exact cdl (Kd.C_below HR0_0.out HB.out)); (case side2 => exact HC0_0.out); (case side3 => exact cdl (Kd.C_below HR1.out HB.out)); (case side4 => exact HC1.out); rintro e w10 ⟨rfl, hb⟩; refine ⟨_, rfl, ?_⟩; have n0_ := Aside0.mk (blk_below (g := gb170) (o := .cells #[.slice A0_0 l0_0.length c0_0] 28 (0, 0)) (bkl BK170) hb); have n1_ := Aside0.mk (blk_below (g := gb171) (o := .cells #[.slice none 0 0] 28 (0, 0)) (bkl BK171) hb); have n2_ := Aside0.mk (below_step (bel2 HB GE170 GE171) hb); clear BK170; clear BK171; clear HB; have BK170 := n0_; have BK171 := n1_; have HB := n2_; clear n0_ n1_ n2_; (try clear hb); (try clear hb2); (try clear hk); (try clear hi); have hcz11_0 : w10.cell? ⟨gb170, 0, none⟩ = some (.slice A0_0 l0_0.length c0_0) := (blk_cell BK170.out 0).trans rfl; have hfz11_0 := blk_frozen BK170.out 0) | ((with_reducible refine gate_callee (f := 68) rfl ?_); refine goesL_ (some 18) rfl rfl Try.func68 (by kernel_rfl) rfl #[.agg #[.slice A0_0 l0_0.length c0_0]] rfl gmp ?_; (with_reducible refine (impl_ownYard.calls k _ _ l0_0 t173 _ ?side1 ?side2 A5.out).mono ?_); (case side1 => exact cdl (Kd.C_below HR0_0.out HB.out)); (case side2 => exact HC0_0.out); rintro e w12 ⟨v174, rfl, ho0, hb⟩; refine ⟨_, rfl, ?_⟩; have n0_ := Aside0.mk (Kd.S_lower ho0 (below_size (bel2 HB GE170 GE171))); have n1_ := Aside0.mk (blk_below (g := gb170) (o := .cells #[.slice A0_0 l0_0.length c0_0] 28 (0, 0)) (bkl BK170) hb); have n2_ := Aside0.mk (blk_below (g := gb171) (o := .cells #[.slice none 0 0] 28 (0, 0)) (bkl BK171) hb); have n3_ := Aside0.mk (below_step (bel2 HB GE170 GE171) hb); clear BK170; clear BK171; clear HB; have HO175 := n0_; have BK170 := n1_; have BK171 := n2_; have HB := n3_; clear n0_ n1_ n2_ n3_; (try clear hb); (try clear hb2); (try clear hk); (try clear hi); (try clear ho0)) | ((with_reducible refine gate_dst (N := 7) rfl ?_); refine box_event ?hg (N := 7) ?hd (cs := #[.slice none 0 0]) (t := 28) ?hr ?_; (case hd => rfl); (case hg => rfl); (case hr => first | (go_simp; done) | (go_simp; rfl)); intro gb176 hg w13 hbox hb; have n0_ := Aside0.mk (Kd.S_below (sdl HO175) hb); have n1_ := Aside0.mk (blk_below (g := gb170) (o := .cells #[.slice A0_0 l0_0.length c0_0] 28 (0, 0)) (bkl BK170) hb); have n2_ := Aside0.mk (blk_below (g := gb171) (o := .cells #[.slice none 0 0] 28 (0, 0)) (bkl BK171) hb); have n3_ := Aside0.mk (below_step (bel2 HB GE170 GE171) hb); have n4_ := Aside0.mk (hbox); have n5_ := Aside0.mk ((by rw [hg]; exact (below_size (bel2 HB GE170 GE171)) : w.heap.size ≤ gb176)); have n6_ := Aside0.mk ((by rw [hg]; exact (below_size (bel2 HB GE170 GE171)) : w.heap.size ≤ gb176)); have n7_ := Aside0.mk ((by rw [hg]; exact Nat.ne_of_lt (blk_lt (g := gb170) (o := .cells #[.slice A0_0 l0_0.length c0_0] 28 (0, 0)) (bkl BK170)) : gb170 ≠ gb176)); have n8_ := Aside0.mk ((by rw [hg]; exact Nat.ne_of_gt (blk_lt (g := gb170) (o := .cells #[.slice A0_0 l0_0.length c0_0] 28 (0, 0)) (bkl BK170)) : gb176 ≠ gb170)); have n9_ := Aside0.mk ((by rw [hg]; exact Nat.ne_of_lt (blk_lt (g := gb171) (o := .cells #[.slice none 0 0] 28 (0, 0)) (bkl BK171)) : gb171 ≠ gb176)); have n10_ := Aside0.mk ((by rw [hg]; exact Nat.ne_of_gt (blk_lt (g := gb171) (o := .cells #[.slice none 0 0] 28 (0, 0)) (bkl BK171)) : gb176 ≠ gb171)); clear HO175; clear BK170; clear BK171; clear HB; have HO175 := n0_; have BK170 := n1_; have BK171 := n2_; have HB := n3_; have BK176 := n4_; have GW176 := n5_; have GE176 := n6_; have NB170_176 := n7_; have NB176_170 := n8_; have NB171_176 := n9_; have NB176_171 := n10_; clear n0_ n1_ n2_ n3_ n4_ n5_ n6_ n7_ n8_ n9_ n10_; clear hb hbox hg; obtain ⟨Ao14, co14, eo14⟩ := Kd.S_slice HO175.out; subst eo14; have hnb15 := NB176_170.out; have hnc15 := NB170_176.out; have hnb16 := NB176_171.out; have hnc16 := NB171_176.out; have hcz17_0 : w13.cell? ⟨gb176, 0, none⟩ = some (.slice none 0 0) := (blk_cell BK176.out 0).trans rfl; have hfz17_0 := blk_frozen BK176.out 0) | ((with_reducible refine gate_dst (N := 19) rfl ?_); refine Kd.R_lit (Kd.int .i64) _ 3 ?hg (N := 19) ?hd (xs := ([] : List Int)) (inner := []) (ok := fun _ => True) (okp := fun _ => True) ?hr ?hp (fun _ hk => hk) trivial (Below.refl _ _) (Nat.le_refl _) (by simp) ?_; (case hd => rfl); (case hg => rfl); (case hr => first | (go_simp; done) | (go_simp; rfl)); (case hp => exact (Reps.none _ _)); intro v178 w18 ho19 hb hg_ hnew_; clear hg_ hnew_; (first | rw [← Ny177.out] at ho19 | (simp only [Int.reduceToNat] at ho19; rw [← Ny177.out] at ho19)); have n0_ := Aside0.mk (Kd.S_elder' (by (with_reducible repeat (first | apply Kd.S_alloc | apply Kd.S_drewN | apply Kd.S_drew)); exact (Kd.S_mono (Kd.S_far (p := ⟨gb176, 0, none⟩) (Kd.S_types HO175.out BK176.out (by decide)) (fun _ hk => hk.2) (.slice Ao14 t173.length co14)) (fun _ h_ => h_.1))) (Kd.R_base ho19) hb); have n1_ := Aside0.mk (Kd.R_lower ho19 (below_size (bel3 HB GE170 GE171 GE176))); have n2_ := Aside0.mk (blk_below (g := gb170) (o := .cells #[.slice A0_0 l0_0.length c0_0] 28 (0, 0)) (by (with_reducible repeat (first | refine blk_drewN ?_ _ | refine blk_drew ?_ | refine blk_alloc ?_ _)); refine blk_far ?_ NB170_176.out _; (with_reducible repeat (first | refine blk_drewN ?_ _ | refine blk_drew ?_ | refine blk_alloc ?_ _)); exact BK170.out) hb); have n3_ := Aside0.mk (blk_below (g := gb171) (o := .cells #[.slice none 0 0] 28 (0, 0)) (by (with_reducible repeat (first | refine blk_drewN ?_ _ | refine blk_drew ?_ | refine blk_alloc ?_ _)); refine blk_far ?_ NB171_176.out _; (with_reducible repeat (first | refine blk_drewN ?_ _ | refine blk_drew ?_ | refine blk_alloc ?_ _)); exact BK171.out) hb); have n4_ := Aside0.mk (blk_below (g := gb176) (o := .cells #[.slice Ao14 t173.length co14] 28 (0, 0)) (by (with_reducible repeat (first | refine blk_drewN ?_ _ | refine blk_drew ?_ | refine blk_alloc ?_ _)); refine blk_put (cs := #[.slice none 0 0]) ?_ 0 _ rfl; (with_reducible repeat (first | refine blk_drewN ?_ _ | refine blk_drew ?_ | refine blk_alloc ?_ _)); exact BK176.out) hb); have n5_ := Aside0.mk (below_step (bel3 HB GE170 GE171 GE176) hb); clear HO175; clear BK170; clear BK171; clear BK176; clear HB; have HO175 := n0_; have HO179 := n1_; have BK170 := n2_; have BK171 := n3_; have BK176 := n4_; have HB := n5_; clear n0_ n1_ n2_ n3_ n4_ n5_; clear hb ho19))
  go_loopg [8, 22] k (fun kq v8 v22 w' => ∃ (x8_1 : List Int) (x22_1 : Int) (x177000_1 : List (List Int)) (u177000 : Value), v22 = .int .i64 x22_1 ∧ Aside0 (impl_PlaceAll.l0 kq x8_1 l1 (l1.length : Int) x22_1 x177000_1 = some (r1, r2, r3)) ∧ Aside0 (kq ≤ k) ∧ Aside0 (Kd.R (Kd.int .i64) 3 w' w.heap.size (fun _ => True) v8 x8_1) ∧ Aside0 (Kd.S (Kd.slice 3 (Kd.int .i64)) 35 w' w.heap.size (fun k_ => some k_ ≠ (v8 : Value).ownBlock) u177000 x177000_1) ∧ Aside0 (w'.heap[gb170]? = some (.cells #[(.slice A0_0 l0_0.length c0_0)] 28 (0, 0))) ∧ Aside0 (w'.heap[gb171]? = some (.cells #[(.slice none 0 0)] 28 (0, 0))) ∧ Aside0 (w'.heap[gb176]? = some (.cells #[u177000] 28 (0, 0))) ∧ Aside0 (Below w.heap.size w w'))
  case atStart => exact ⟨(y177), (0), (t173), (.slice Ao14 t173.length co14), (by first | rfl | (simp; done) | (simp [*]; done)), H', ⟨Nat.le_refl _⟩, ⟨rdl HO179⟩, ⟨by (with_reducible repeat (first | apply Kd.S_alloc | apply Kd.S_drewN | apply Kd.S_drew)); exact Kd.S_mono HO175.out (fun _ hk => hk.2)⟩, ⟨bkl BK170⟩, ⟨bkl BK171⟩, ⟨bkl BK176⟩, ⟨bel3 HB GE170 GE171 GE176⟩⟩
  case round =>
   clear H'
   try clear c1
   try clear p2
   try clear c3
   try clear c4
   try clear c6
   try clear c8
   try clear c15
   try clear c16
   try clear hcz11_0
   try clear hcz17_0
   try clear hcz9_0
   try clear hfz11_0
   try clear hfz17_0
   try clear hfz9_0
   obtain ⟨x8_1, x22_1, x177000_1, u177000, rfl, HA, HK1, HO_8, HO_177000, BK170, BK171, BK176, HB⟩ := hrel
   cases gk with
   | zero => exact absurd HA.out (by simp [impl_PlaceAll.l0])
   | succ k1 =>
    have H := HA.out
    clear HA
    simp only [impl_PlaceAll.l0] at H
    by_cases c20 : x22_1 < (l1.length : Int)
    ·rw [if_pos c20] at H
     have c20b0 : decide (x22_1 < (l1.length : Int)) = true := decide_eq_true c20
     clear c20
     by_cases c21 : 0 ≤ x22_1
     ·rw [if_pos c21] at H
      have c21b0 : decide (0 ≤ x22_1) = true := decide_eq_true c21
      clear c21
      by_cases c22 : x22_1 < (l1.length : Int)
      ·rw [if_pos c22] at H
       have c22b0 : decide (x22_1 < (l1.length : Int)) = true := decide_eq_true c22
       clear c22
       replace H := Option.bind_eq_some_iff.mp H
       obtain ⟨t181, A230, H⟩ := H
       replace H : (if t181 < 0 then (some (([] : List (List Int)), ([] : List Int), false)) else (if 0 ≤ t181 then (if t181 < (x177000_1.length : Int) then (if (rd_L1 x177000_1 t181).length < 17592186044416 then (if x8_1.length < 17592186044416 then (impl_PlaceAll.l0 k1 (x8_1 ++ [t181]) l1 (l1.length : Int) (wrap64 (x22_1 + 1)) (x177000_1.set (t181 : Int).toNat ((rd_L1 x177000_1 t181) ++ [rd l1 x22_1]))) else (none)) else (none)) else (none)) else (none))) = some (r1, r2, r3) := H
       have A23 := Aside0.mk A230
       clear A230
       by_cases c24 : t181 < 0
       ·rw [if_pos c24] at H
        have c24b0 : decide (t181 < 0) = true := decide_eq_true c24
        clear c24
        simp only [Option.some.injEq, Prod.mk.injEq] at H
        obtain ⟨rfl, rfl, rfl⟩ := H
        have p180 : 0 ≤ (x22_1 : Int) := oda
        have q180 : x22_1 < (l1.length : Int) := oda
        obtain ⟨ad180, e180, hx180_0⟩ := Kd.at_int HR1.out x22_1 p180 q180
        cases e180
        replace hx180_0 := cel HB hx180_0
        replace p180 := eq_true p180
        replace q180 := eq_true q180
        have hnb25 := NB176_170.out
        have hnc25 := NB170_176.out
        have hnb26 := NB176_171.out
        have hnc26 := NB171_176.out
        have hcz27_0 : wr.cell? ⟨gb176, 0, none⟩ = some (u177000) := (blk_cell BK176.out 0).trans rfl
        have hfz27_0 := blk_frozen BK176.out 0
        obtain ⟨Ao28, co28, eo28⟩ := Kd.S_slice HO_177000.out
        subst eo28
        go_wp2_with (first | ((with_reducible refine gate_callee (f := 69) rfl ?_); refine goesL_ (some 28) rfl rfl Try.func69 (by kernel_rfl) rfl #[.agg #[.slice Ao28 x177000_1.length co28], .int .i64 (rd l1 x22_1)] rfl gmp ?_; (with_reducible refine (impl_chooseStack.calls k1 _ _ x177000_1 (rd l1 x22_1) t181 _ ?side1 ?side2 A23.out).mono ?_); (case side1 => repeat (first | exact (Kd.S_reads' HO_177000.out).2.2 | (with_reducible refine Kd.C_alloc ?_ _) | (with_reducible refine Kd.C_drewN ?_ _) | (with_reducible refine Kd.C_drew ?_))); (case side2 => exact (Kd.S_reads' HO_177000.out).2.1); rintro e w29 ⟨rfl, hb⟩; refine ⟨_, rfl, ?_⟩; have n0_ := Aside0.mk (Kd.R_below (rdl HO_8) hb); have n1_ := Aside0.mk (Kd.S_below (sdl HO_177000) hb); have n2_ := Aside0.mk (blk_below (g := gb170) (o := .cells #[.slice A0_0 l0_0.length c0_0] 28 (0, 0)) (bkl BK170) hb); have n3_ := Aside0.mk (blk_below (g := gb171) (o := .cells #[.slice none 0 0] 28 (0, 0)) (bkl BK171) hb); have n4_ := Aside0.mk (blk_below (g := gb176) (o := .cells #[.slice Ao28 x177000_1.length co28] 28 (0, 0)) (bkl BK176) hb); have n5_ := Aside0.mk (below_step (bel3 HB GE170 GE171 GE176) hb); clear HO_8; clear HO_177000; clear BK170; clear BK171; clear BK176; clear HB; have HO_8 := n0_; have HO_177000 := n1_; have BK170 := n2_; have BK171 := n3_; have BK176 := n4_; have HB := n5_; clear n0_ n1_ n2_ n3_ n4_ n5_; (try clear hb); (try clear hb2); (try clear hk); (try clear hi); have hnb30 := NB171_170.out; have hnc30 := NB170_171.out; have hcz31_0 : w29.cell? ⟨gb171, 0, none⟩ = some (.slice none 0 0) := (blk_cell BK171.out 0).trans rfl; have hfz31_0 := blk_frozen BK171.out 0))
        refine bodyPost_ret (results_ctt rfl _ _ gb171 28 #[.slice none 0 0] (0, 0) _ rfl (by (with_reducible repeat (first | refine blk_drewN ?_ _ | refine blk_drew ?_ | refine blk_alloc ?_ _)); refine blk_put (cs := #[.slice none 0 0]) ?_ 0 _ rfl; (with_reducible repeat (first | refine blk_drewN ?_ _ | refine blk_drew ?_ | refine blk_alloc ?_ _)); exact BK171.out) Try.underlying28 rfl (by kernel_rfl)) rfl ?_
        exact ⟨_, _, by first | rfl | (simp [errW_none, errW_some] <;> rfl) | (simp [*, errW_none, errW_some] <;> rfl), by first | exact Kd.S_nil _ _ _ _ _ | exact Kd.N_nil _ _ _ _ _ | exact Kd.V_nil _ _ _ _ _ | exact Kd.Q_nil _ _ _ _ _ | exact Kd.R_nil _ _ _ _ _, by first | exact Kd.R_nil _ _ _ _ _ | exact Kd.N_nil _ _ _ _ _ | exact Kd.V_nil _ _ _ _ _ | exact Kd.Q_nil _ _ _ _ _ | exact Kd.S_nil _ _ _ _ _, bel3 HB GE170 GE171 GE176⟩
       ·rw [if_neg c24] at H
        have c24b0 : decide (t181 < 0) = false := decide_eq_false c24
        clear c24
        by_cases c32 : 0 ≤ t181
        ·rw [if_pos c32] at H
         have c32b0 : decide (0 ≤ t181) = true := decide_eq_true c32
         clear c32
         by_cases c33 : t181 < (x177000_1.length : Int)
         ·rw [if_pos c33] at H
          have c33b0 : decide (t181 < (x177000_1.length : Int)) = true := decide_eq_true c33
          clear c33
          by_cases c34 : (rd_L1 x177000_1 t181).length < 17592186044416
          ·rw [if_pos c34] at H
           have LMc34 := Aside0.mk c34
           clear c34
           obtain ⟨y183, hy183⟩ : ∃ y_ : List Int, y_ = ((rd_L1 x177000_1 t181) ++ [rd l1 x22_1]) := ⟨_, rfl⟩
           replace H : (if x8_1.length < 17592186044416 then (impl_PlaceAll.l0 k1 (x8_1 ++ [t181]) l1 (l1.length : Int) (wrap64 (x22_1 + 1)) (x177000_1.set (t181 : Int).toNat y183)) else (none)) = some (r1, r2, r3) := by first | (rw [hy183]; with_reducible exact H) | (have H2_ := (Option.bind_some _ _).symm.trans H; rw [hy183]; with_reducible exact H2_) | (have H2_ := (Option.bind_some _ _).symm.trans H; with_reducible exact H2_) | with_reducible exact H | (rw [hy183]; exact H) | exact H
           have Ny183 := Aside0.mk hy183
           clear hy183
           obtain ⟨y186, hy186⟩ : ∃ y_ : List (List Int), y_ = (x177000_1.set (t181 : Int).toNat y183) := ⟨_, rfl⟩
           replace H : (if x8_1.length < 17592186044416 then (impl_PlaceAll.l0 k1 (x8_1 ++ [t181]) l1 (l1.length : Int) (wrap64 (x22_1 + 1)) y186) else (none)) = some (r1, r2, r3) := by first | (rw [hy186]; with_reducible exact H) | (have H2_ := (Option.bind_some _ _).symm.trans H; rw [hy186]; with_reducible exact H2_) | (have H2_ := (Option.bind_some _ _).symm.trans H; with_reducible exact H2_) | with_reducible exact H | (rw [hy186]; exact H) | exact H
           have Ny186 := Aside0.mk hy186
           clear hy186
           by_cases c36 : x8_1.length < 17592186044416
           ·rw [if_pos c36] at H
            have LMc36 := Aside0.mk c36
            clear c36
            obtain ⟨y187, hy187⟩ : ∃ y_ : List Int, y_ = (x8_1 ++ [t181]) := ⟨_, rfl⟩
            replace H : (impl_PlaceAll.l0 k1 y187 l1 (l1.length : Int) (wrap64 (x22_1 + 1)) y186) = some (r1, r2, r3) := by first | (rw [hy187]; with_reducible exact H) | (have H2_ := (Option.bind_some _ _).symm.trans H; rw [hy187]; with_reducible exact H2_) | (have H2_ := (Option.bind_some _ _).symm.trans H; with_reducible exact H2_) | with_reducible exact H | (rw [hy187]; exact H) | exact H
            have Ny187 := Aside0.mk hy187
            clear hy187
            have H' := Aside0.mk H
            clear H
            have p180 : 0 ≤ (x22_1 : Int) := oda
            have q180 : x22_1 < (l1.length : Int) := oda
            obtain ⟨ad180, e180, hx180_0⟩ := Kd.at_int HR1.out x22_1 p180 q180
            cases e180
            replace hx180_0 := cel HB hx180_0
            replace p180 := eq_true p180
            replace q180 := eq_true q180
            have hnb37 := NB176_170.out
            have hnc37 := NB170_176.out
            have hnb38 := NB176_171.out
            have hnc38 := NB171_176.out
            have hcz39_0 : wr.cell? ⟨gb176, 0, none⟩ = some (u177000) := (blk_cell BK176.out 0).trans rfl
            have hfz39_0 := blk_frozen BK176.out 0
            obtain ⟨Ao40, co40, eo40⟩ := Kd.S_slice HO_177000.out
            subst eo40
            try go_wp2_with (first | ((with_reducible refine gate_callee (f := 69) rfl ?_); refine goesL_ (some 28) rfl rfl Try.func69 (by kernel_rfl) rfl #[.agg #[.slice Ao40 x177000_1.length co40], .int .i64 (rd l1 x22_1)] rfl gmp ?_; (with_reducible refine (impl_chooseStack.calls k1 _ _ x177000_1 (rd l1 x22_1) t181 _ ?side1 ?side2 A23.out).mono ?_); (case side1 => repeat (first | exact (Kd.S_reads' HO_177000.out).2.2 | (with_reducible refine Kd.C_alloc ?_ _) | (with_reducible refine Kd.C_drewN ?_ _) | (with_reducible refine Kd.C_drew ?_))); (case side2 => exact (Kd.S_reads' HO_177000.out).2.1); rintro e w41 ⟨rfl, hb⟩; refine ⟨_, rfl, ?_⟩; have n0_ := Aside0.mk (Kd.R_below (rdl HO_8) hb); have n1_ := Aside0.mk (Kd.S_below (sdl HO_177000) hb); have n2_ := Aside0.mk (blk_below (g := gb170) (o := .cells #[.slice A0_0 l0_0.length c0_0] 28 (0, 0)) (bkl BK170) hb); have n3_ := Aside0.mk (blk_below (g := gb171) (o := .cells #[.slice none 0 0] 28 (0, 0)) (bkl BK171) hb); have n4_ := Aside0.mk (blk_below (g := gb176) (o := .cells #[.slice Ao40 x177000_1.length co40] 28 (0, 0)) (bkl BK176) hb); have n5_ := Aside0.mk (below_step (bel3 HB GE170 GE171 GE176) hb); clear HO_8; clear HO_177000; clear BK170; clear BK171; clear BK176; clear HB; have HO_8 := n0_; have HO_177000 := n1_; have BK170 := n2_; have BK171 := n3_; have BK176 := n4_; have HB := n5_; clear n0_ n1_ n2_ n3_ n4_ n5_; (try clear hb); (try clear hb2); (try clear hk); (try clear hi)))
            have n0_ := Aside0.mk (Kd.R_drew HO_8.out)
            have n1_ := Aside0.mk (Kd.S_drew HO_177000.out)
            have n2_ := Aside0.mk (blk_drew BK170.out)
            have n3_ := Aside0.mk (blk_drew BK171.out)
            have n4_ := Aside0.mk (blk_drew BK176.out)
            have n5_ := Aside0.mk (below_drew1 HB.out)
            clear HO_8
            clear HO_177000
            clear BK170
            clear BK171
            clear BK176
            clear HB
            have HO_8 := n0_
            have HO_177000 := n1_
            have BK170 := n2_
            have BK171 := n3_
            have BK176 := n4_
            have HB := n5_
            clear n0_ n1_ n2_ n3_ n4_ n5_
            have p182 : 0 ≤ (t181 : Int) := oda
            have q182 : t181 < (x177000_1.length : Int) := oda
            obtain ⟨ad182, A182_0, c182_0, e182, hx182_0, hl182_0, hi182_0⟩ := at_L1 (Kd.S_reads' HO_177000.out).2.2 t181 p182 q182
            cases e182
            obtain ⟨ce182, hce182, hMe182, hcc182⟩ := Kd.S_get HO_177000.out [] t181 p182 (by first | exact q182 | exact oda | (have e_ := (Kd.S_reads' HO_177000.out).1; omega))
            obtain ⟨ve182_0, rfl, ge182_0⟩ := hMe182
            have hv182_0 := hcc182 0 _ rfl
            rw [Nat.add_zero, show ((Kd.slice 3 (Kd.int .i64))).sz = 1 from rfl, Nat.mul_one] at hv182_0
            replace hv182_0 := Option.some.inj (hv182_0.symm.trans hx182_0)
            rw [hv182_0] at ge182_0
            have HL182_0 := Aside0.mk (show Kd.R (Kd.int .i64) 3 _ _ _ _ (rd_L1 x177000_1 t181) from ge182_0)
            clear hv182_0 ge182_0
            have HX182_0 := Aside0.mk hx182_0
            clear hcc182 hce182
            have HR182_0 := Aside0.mk hi182_0
            have HC182_0 := Aside0.mk hl182_0
            clear hi182_0 hl182_0
            replace p182 := eq_true p182
            replace q182 := eq_true q182
            obtain ⟨go43, co43, eo43, gb43, gl43, cl43, HG43⟩ := Kd.S_form HO_177000.out (by have h_ : (t181 : Int) < ((x177000_1.length : Int) : Int) := oda; have h2_ : 0 ≤ (t181 : Int) := (oda); omega)
            (first | cases eo43 | (injection eo43 with ea_ en_ ec_; (first | subst ea_ | (injection ea_ with ea_; subst ea_)); subst ec_; clear en_))
            have GB43 := Aside0.mk gb43
            have GG43 := Aside0.mk HG43
            clear gb43 gl43 HG43
            (first | simp only [add_plain] at hx182_0 | skip)
            obtain ⟨oki43, ce43, hcl43, hM43, hcc43, _, _, hH43⟩ := Kd.S_elem HO_177000.out [] (t181 : Int) (oda) (by have h_ : (t181 : Int) < ((x177000_1.length : Int) : Int) := oda; first | exact h_ | (have e_ := (Kd.S_reads' HO_177000.out).1; omega) | simpa using h_)
            obtain ⟨ve43_0, rfl, ge43_0⟩ := hM43
            have hv43 := hcc43 0 _ rfl
            have hX43 := HX182_0.out
            (try simp only [add_plain] at hX43)
            (try simp only [Nat.add_zero] at hv43)
            (try rw [show ((Kd.slice 3 (Kd.int .i64))).sz = 1 from rfl, Nat.mul_one] at hv43)
            replace hv43 := Option.some.inj (hv43.symm.trans hX43)
            subst hv43
            clear hX43 hcc43 hcl43
            have UU43 := Aside0.mk (show Kd.R (Kd.int .i64) 3 _ w.heap.size oki43 (.slice A182_0 (rd_L1 x177000_1 t181).length c182_0) (rd_L1 x177000_1 t181) from ge43_0)
            have HH43 := Aside0.mk hH43
            have HN43 := Aside0.mk (Kd.S_reads' HO_177000.out).1
            clear hH43 ge43_0
            refine start_ (n := 13) (S := fun w' => w'.cell? ⟨gb176, 0, none⟩ = some (.slice (some ⟨go43, 0, none⟩) x177000_1.length co40) ∧ w'.cell? ⟨go43, (t181).toNat, none⟩ = some (.slice A182_0 (rd_L1 x177000_1 t181).length c182_0)) (ds := [12]) #[false, false, false, false, false, false, false, false, false, false, false, false, false] (by kernel_rfl) rfl rfl ⟨(blk_cell BK176.out 0).trans rfl, hx182_0⟩ (fun hHeld => ?_); refine with_tabW impl_PlaceAll.tab11 impl_PlaceAll.bits11 (fun HT_ HW_ => ?_)
            generalize w41.drew = w42 at HO_8 HO_177000 BK170 BK171 BK176 HB GG43 HH43 HL182_0 HR182_0 HX182_0 UU43 hx182_0 hHeld ⊢
            refine pure_ (i := 0) (N := some 32) (v := ?_) (a' := ?_) #[true, false, false, false, false, false, false, false, false, false, false, false, false] rfl rfl (any_of HT_.out (by kernel_rfl)) (fun _ _ _ h => h) (Or.inl ⟨by rfl, ?_⟩) ?_ ?_
            rotate_left
            ·intro w'
             go_simp
             with_reducible rfl
            rotate_left
            ·simp only [Act.put, List.setIfInBounds_toArray, List.set_cons_zero, List.set_cons_succ, i64_w, i32_w]
             rfl
            refine pure_ (i := 2) (N := some 34) (v := ?_) (a' := ?_) #[true, false, true, false, false, false, false, false, false, false, false, false, false] rfl rfl (any_of HT_.out (by kernel_rfl)) (fun _ _ _ h => h) (Or.inl ⟨by rfl, ?_⟩) ?_ ?_
            rotate_left
            ·intro w'
             go_simp
             with_reducible rfl
            rotate_left
            ·simp only [Act.put, List.setIfInBounds_toArray, List.set_cons_zero, List.set_cons_succ, i64_w, i32_w]
             rfl
            refine pure_ (i := 3) (N := some 35) (v := ?_) (a' := ?_) #[true, false, true, true, false, false, false, false, false, false, false, false, false] rfl rfl (any_of HT_.out (by kernel_rfl)) (fun _ _ _ h => h) (Or.inl ⟨by rfl, ?_⟩) ?_ ?_
            rotate_left
            ·intro w'
             go_simp
             with_reducible rfl
            rotate_left
            ·simp only [Act.put, List.setIfInBounds_toArray, List.set_cons_zero, List.set_cons_succ, i64_w, i32_w]
             rfl
            refine pure_ (i := 5) (N := some 37) (v := ?_) (a' := ?_) #[true, false, true, true, false, true, false, false, false, false, false, false, false] rfl rfl (any_of HT_.out (by kernel_rfl)) (fun _ _ _ h => h) (Or.inl ⟨by rfl, ?_⟩) ?_ ?_
            rotate_left
            ·intro w'
             go_simp
             with_reducible rfl
            rotate_left
            ·simp only [Act.put, List.setIfInBounds_toArray, List.set_cons_zero, List.set_cons_succ, i64_w, i32_w]
             rfl
            refine pure_ (i := 8) (N := some 40) (v := ?_) (a' := ?_) #[true, false, true, true, false, true, false, false, true, false, false, false, false] rfl rfl (any_of HT_.out (by kernel_rfl)) (fun _ _ _ h => h) (Or.inl ⟨by rfl, ?_⟩) ?_ ?_
            rotate_left
            ·intro w'
             go_simp
             with_reducible rfl
            rotate_left
            ·simp only [Act.put, List.setIfInBounds_toArray, List.set_cons_zero, List.set_cons_succ, i64_w, i32_w]
             rfl
            refine take_ (i := 1) (N := some 33) (v := ?_) (a' := ?_) #[true, true, true, true, false, true, false, false, true, false, false, false, false] rfl rfl (take_ofW HT_.out HW_.out (by kernel_rfl)) (fun _ _ _ h => h) (Or.inl ⟨by rfl, ?_⟩) hHeld ?_ ?_
            rotate_left
            ·rintro w' ⟨s0, s1⟩
             go_simp
             with_reducible rfl
            rotate_left
            ·simp only [Act.put, List.setIfInBounds_toArray, List.set_cons_zero, List.set_cons_succ, i64_w, i32_w]
             rfl
            refine take_ (i := 4) (N := some 36) (v := ?_) (a' := ?_) #[true, true, true, true, true, true, false, false, true, false, false, false, false] rfl rfl (take_ofW HT_.out HW_.out (by kernel_rfl)) (fun _ _ _ h => h) (Or.inl ⟨by rfl, ?_⟩) hHeld ?_ ?_
            rotate_left
            ·rintro w' ⟨s0, s1⟩
             go_simp
             with_reducible rfl
            rotate_left
            ·simp only [Act.put, List.setIfInBounds_toArray, List.set_cons_zero, List.set_cons_succ, i64_w, i32_w]
             rfl
            refine pure_ (i := 6) (N := some 38) (v := ?_) (a' := ?_) #[true, true, true, true, true, true, true, false, true, false, false, false, false] rfl rfl (any_of HT_.out (by kernel_rfl)) (fun _ _ _ h => h) (Or.inl ⟨by rfl, ?_⟩) ?_ ?_
            rotate_left
            ·intro w'
             go_simp
             with_reducible rfl
            rotate_left
            ·simp only [Act.put, List.setIfInBounds_toArray, List.set_cons_zero, List.set_cons_succ, i64_w, i32_w]
             rfl
            refine take_ (i := 7) (N := some 39) (v := ?_) (a' := ?_) #[true, true, true, true, true, true, true, true, true, false, false, false, false] rfl rfl (take_ofW HT_.out HW_.out (by kernel_rfl)) (fun _ _ _ h => h) (Or.inl ⟨by rfl, ?_⟩) hHeld ?_ ?_
            rotate_left
            ·rintro w' ⟨s0, s1⟩
             go_simp
             with_reducible rfl
            rotate_left
            ·simp only [Act.put, List.setIfInBounds_toArray, List.set_cons_zero, List.set_cons_succ, i64_w, i32_w]
             rfl
            refine one_ (i := 9) (N := some 41) #[true, true, true, true, true, true, true, true, true, true, false, false, false] rfl rfl (one_of HT_.out (by kernel_rfl)) (by decide) (fun K hK => ?_)
            refine value_ (w1 := ?_) (v := ?_) (by rfl) rfl ?_ ?_
            rotate_left 2
            ·go_simp
             constructor
             ·rfl
             ·rfl
            refine hK.out _ _ ⟨(blk_cell (blk_alloc BK176.out _) 0).trans rfl, (World.cell?_alloc_lt _ _ _ (World.block_lt_of_cell? _ _ (hHeld.2))).trans (hHeld.2)⟩ (fun hHeld => ?_)
            clear hK K
            refine norm_ (a' := ?_) ?_ ?_
            rotate_left
            ·show Act.put _ (some 41) _ = _
             simp only [Act.put, List.setIfInBounds_toArray, List.set_cons_zero, List.set_cons_succ, i64_w, i32_w]
             rfl
            refine one_ (i := 10) (N := some 42) #[true, true, true, true, true, true, true, true, true, true, true, false, false] rfl rfl (one_of HT_.out (by kernel_rfl)) (by decide) (fun K hK => ?_)
            refine Kd.R_append_step (Kd.int .i64) (w0 := w) w.heap.size (by rfl) (.tmp 39) (.tmp 41) 35 3 (.int .i64 0) 8 rfl Try.underlying35 info3 rfl (by decide) (by omega) (.slice A182_0 (rd_L1 x177000_1 t181).length c182_0) (rd_L1 x177000_1 t181) (rd l1 x22_1) [.int .i64 (rd l1 x22_1)] (fun k_ => oki43 k_ ∨ ((fun k_ => some k_ ≠ (u8 : Value).ownBlock)) k_ ∧ w42.heap.size ≤ k_) (fun _ => False) rfl rfl ?aP (fun _ hk => hk.elim) ?aF ?aO ?aB ?aS ?aL ?_
            (case aP => exact rfl)
            (case aB => exact (bel3 HB GE170 GE171 GE176))
            (case aF => exact (fun k_ hk => .inr ⟨Kd.fresh' (Kd.R_lt (rdl HO_8)) k_ hk, hk⟩))
            (case aO => exact (by (with_reducible repeat (first | apply Kd.R_alloc | apply Kd.R_drewN | apply Kd.R_drew)); exact Kd.R_mono UU43.out (fun _ hk => .inl hk)))
            (case aS => exact (below_size (bel3 HB GE170 GE171 GE176)))
            (case aL => have := LMc34.out; omega)
            intro v184 w44 ho hb hg hat
            (first | have HS1_ := cell_grown hg (hHeld.2) (by first | (rw [add_block]; exact (fun e_ => ((HL182_0.out.1 _ e_.symm).2) rfl)) | (show some (Addr.add _ _).block ≠ _; rw [add_block]; exact (fun e_ => ((HL182_0.out.1 _ e_.symm).2) rfl)) | exact (fun e_ => ((HL182_0.out.1 _ e_.symm).2) rfl)) | have HS1_ := cell_grown hg (cell_unalloc (hHeld.2) (by first | (rw [add_block]; exact Kd.S_lt HO_177000.out _ rfl) | (show (Addr.add _ _).block < _; rw [add_block]; exact Kd.S_lt HO_177000.out _ rfl) | exact Kd.S_lt HO_177000.out _ rfl)) (by first | (rw [add_block]; exact (fun e_ => ((HL182_0.out.1 _ e_.symm).2) rfl)) | (show some (Addr.add _ _).block ≠ _; rw [add_block]; exact (fun e_ => ((HL182_0.out.1 _ e_.symm).2) rfl)) | exact (fun e_ => ((HL182_0.out.1 _ e_.symm).2) rfl)))
            rw [← Ny183.out] at ho
            have n0_ := Aside0.mk (Kd.R_grown2 (rdl HO_8) rfl hg (fun k_ e_ => (HL182_0.out.1 k_ e_).1))
            have n1_ := Aside0.mk (blk_grown (g := gb170) (o := .cells #[.slice A0_0 l0_0.length c0_0] 28 (0, 0)) (bkl BK170) hg (Kd.R_ne HL182_0.out BK170.out (by decide)))
            have n2_ := Aside0.mk (blk_grown (g := gb171) (o := .cells #[.slice none 0 0] 28 (0, 0)) (bkl BK171) hg (Kd.R_ne HL182_0.out BK171.out (by decide)))
            have n3_ := Aside0.mk (blk_grown (g := gb176) (o := .cells #[.slice (some ⟨go43, 0, none⟩) x177000_1.length co40] 28 (0, 0)) (bkl BK176) hg (Kd.R_ne HL182_0.out BK176.out (by decide)))
            have n4_ := Aside0.mk (hb)
            have n5_ := Aside0.mk (Kd.H_grown (Kd.H_widen (by repeat (first | exact HH43.out | refine Kd.H_alloc ?_ _ | refine Kd.H_drewN ?_ _ | refine Kd.H_drew ?_))) hg (fun k_ e_ => .inl (UU43.out.1 k_ e_)))
            have n6_ := Aside0.mk (ho)
            clear HO_8
            clear BK170
            clear BK171
            clear BK176
            clear HB
            clear HH43
            clear HO_177000
            clear UU43
            clear HL182_0
            have HO_8 := n0_
            have BK170 := n1_
            have BK171 := n2_
            have BK176 := n3_
            have HB := n4_
            have HH43 := n5_
            have HO185 := n6_
            clear n0_ n1_ n2_ n3_ n4_ n5_ n6_
            clear ho hb hg hat
            have p35 : 0 ≤ (t181 : Int) := oda
            have q35 : (t181 : Int) < ((x177000_1.length : Int) : Int) := oda
            replace p35 := eq_true p35
            replace q35 := eq_true q35
            obtain ⟨Ao47, co47, eo47⟩ := Kd.R_slice HO185.out
            (first | subst eo47 | (injection eo47 with f1_ f2_ f3_; have f4_ := f1_.symm; have f5_ := f3_.symm; clear f1_ f2_ f3_; subst f4_; subst f5_))
            obtain ⟨_, _, hraw45, _, _, hcc45, _⟩ := Kd.H_raw HH43.out (oda) (by have h_ : (t181 : Int) < ((x177000_1.length : Int) : Int) := oda; first | exact h_ | (have e_ := (HN43.out); omega) | simpa using h_)
            obtain ⟨_, hfr45⟩ := Kd.H_at HH43.out (oda) (by have h_ : (t181 : Int) < ((x177000_1.length : Int) : Int) := oda; first | exact h_ | (have e_ := (HN43.out); omega) | simpa using h_)
            have hx45_0 := hcc45 0 _ rfl
            have hf45_0 := hfr45 0
            (try simp only [Nat.add_zero] at hx45_0 hf45_0)
            (try rw [show ((Kd.slice 3 (Kd.int .i64))).sz = 1 from rfl, Nat.mul_one] at hx45_0)
            (try rw [show ((Kd.slice 3 (Kd.int .i64))).sz = 1 from rfl, Nat.mul_one] at hf45_0)
            have HP45 := Kd.S_seg0 HH43.out (oda) (by have h_ : (t181 : Int) < ((x177000_1.length : Int) : Int) := oda; first | exact h_ | (have e_ := (HN43.out); omega) | simpa using h_) (seg := [.slice Ao47 y183.length co47]) (j := 0) (show 1 ≤ 1 from by decide) (x' := y183) (Kd.M_row HO185.out) (fun _ hk => hk)
            (try simp only [show ((Kd.slice 3 (Kd.int .i64))).sz = 1 from rfl, Nat.mul_one, Nat.add_zero] at HP45)
            clear hcc45 hfr45
            have HNB170_go43 := Aside0.mk (show gb170 ≠ go43 from by have h_ := Kd.R_ne hraw45 BK170.out (by decide); intro e_; exact h_ (by rw [e_]; rfl))
            have HNB171_go43 := Aside0.mk (show gb171 ≠ go43 from by have h_ := Kd.R_ne hraw45 BK171.out (by decide); intro e_; exact h_ (by rw [e_]; rfl))
            have HNB176_go43 := Aside0.mk (show gb176 ≠ go43 from by have h_ := Kd.R_ne hraw45 BK176.out (by decide); intro e_; exact h_ (by rw [e_]; rfl))
            have HS45 := HP45.1
            rw [← Ny186.out] at HS45
            have HQ45 := Aside0.mk HS45
            obtain ⟨_, hgg45⟩ := Kd.R_typed hraw45 go43 rfl
            have GG45_ := Aside0.mk hgg45
            clear HP45 HS45 hgg45
            refine hK.out _ _ ⟨(blk_cell BK176.out 0).trans rfl, HS1_⟩ (fun hHeld => ?_)
            clear hK K
            refine norm_ (a' := ?_) ?_ ?_
            rotate_left
            ·show Act.put _ (some 42) _ = _
             simp only [Act.put, List.setIfInBounds_toArray, List.set_cons_zero, List.set_cons_succ, i64_w, i32_w]
             rfl
            refine pure_ (i := 11) (N := some 43) (v := ?_) (a' := ?_) #[true, true, true, true, true, true, true, true, true, true, true, true, false] rfl rfl (any_of HT_.out (by kernel_rfl)) (fun _ _ _ h => h) (Or.inl ⟨by rfl, ?_⟩) ?_ ?_
            rotate_left
            ·intro w'
             go_simp
             with_reducible rfl
            rotate_left
            ·simp only [Act.put, List.setIfInBounds_toArray, List.set_cons_zero, List.set_cons_succ, i64_w, i32_w]
             rfl
            refine last_ (i := 12) (N := none) #[true, true, true, true, true, true, true, true, true, true, true, true, true] rfl rfl (one_of HT_.out (by kernel_rfl)) (by decide) (fun K hK => ?_)
            refine skip_ (w1 := ?_) (by rfl) rfl ?_ ?_
            rotate_left
            ·go_simp
             rfl
            refine hK.out _ _ ?_
            clear hK K
            refine done_ (done_of HT_.out (by kernel_rfl)) ?_
            try go_wp2_with (first | ((with_reducible refine gate_builtin (b := .append) (xs := #[.tmp 44, .tmp 46]) rfl ?_); at_builtin; refine Kd.R_append (Kd.int .i64) (w0 := w) w.heap.size rfl (.tmp 44) (.tmp 46) 35 3 (.int .i64 0) 8 rfl Try.underlying35 info3 rfl (by decide) (by omega) u8 x8_1 t181 [.int .i64 t181] (fun _ => True) (fun _ => False) rfl (by first | (go_simp; done) | (go_simp; rfl)) ?aP (fun _ hk => hk.elim) ?aF ?aO ?aB ?aS ?aL ?_; (case aP => exact rfl); (case aB => exact (by repeat (first | (with_reducible first | exact HB.out | apply below_alloc | apply pw_below_drewN | apply below_drew1 | refine below_set ?_ GB43.out | refine below_set ?_ GE170.out | refine below_set ?_ GE171.out | refine below_set ?_ GE176.out) | exact HB.out))); (case aF => exact (fun _ _ => trivial)); (case aO => exact (by (with_reducible repeat (first | apply Kd.R_alloc | apply Kd.R_drewN | apply Kd.R_drew)); exact Kd.R_mono (Kd.R_far (p := ⟨go43, (t181 : Int).toNat, none⟩) (Kd.R_types HO_8.out GG45_.out (by decide)) (fun _ hk => hk.2) (.slice Ao47 y183.length co47)) (fun _ hk => trivial))); (case aS => exact (below_size (by repeat (first | (with_reducible first | exact HB.out | apply below_alloc | apply pw_below_drewN | apply below_drew1 | refine below_set ?_ GB43.out | refine below_set ?_ GE170.out | refine below_set ?_ GE171.out | refine below_set ?_ GE176.out) | exact HB.out)))); (case aL => have := LMc36.out; omega); intro v188 w48 ho hb hg hat; rw [← Ny187.out] at ho; have n0_ := Aside0.mk (blk_grown (g := gb170) (o := .cells #[.slice A0_0 l0_0.length c0_0] 28 (0, 0)) (by (with_reducible repeat (first | refine blk_drewN ?_ _ | refine blk_drew ?_ | refine blk_alloc ?_ _)); refine blk_far ?_ HNB170_go43.out _; (with_reducible repeat (first | refine blk_drewN ?_ _ | refine blk_drew ?_ | refine blk_alloc ?_ _)); exact BK170.out) hg (Kd.R_ne HO_8.out BK170.out (by decide))); have n1_ := Aside0.mk (blk_grown (g := gb171) (o := .cells #[.slice none 0 0] 28 (0, 0)) (by (with_reducible repeat (first | refine blk_drewN ?_ _ | refine blk_drew ?_ | refine blk_alloc ?_ _)); refine blk_far ?_ HNB171_go43.out _; (with_reducible repeat (first | refine blk_drewN ?_ _ | refine blk_drew ?_ | refine blk_alloc ?_ _)); exact BK171.out) hg (Kd.R_ne HO_8.out BK171.out (by decide))); have n2_ := Aside0.mk (blk_grown (g := gb176) (o := .cells #[.slice (some ⟨go43, 0, none⟩) x177000_1.length co40] 28 (0, 0)) (by (with_reducible repeat (first | refine blk_drewN ?_ _ | refine blk_drew ?_ | refine blk_alloc ?_ _)); refine blk_far ?_ HNB176_go43.out _; (with_reducible repeat (first | refine blk_drewN ?_ _ | refine blk_drew ?_ | refine blk_alloc ?_ _)); exact BK176.out) hg (Kd.R_ne HO_8.out BK176.out (by decide))); have n3_ := Aside0.mk (Kd.S_after (ok := (fun _ => True)) (by (with_reducible repeat (first | apply Kd.S_alloc | apply Kd.S_drewN | apply Kd.S_drew)); exact Kd.S_mono HQ45.out (fun _ hk => ⟨trivial, hk⟩)) hg hat); have n4_ := Aside0.mk (hb); have n5_ := Aside0.mk (ho); clear BK170; clear BK171; clear BK176; (try clear HO_177000); clear HB; clear HO_8; have BK170 := n0_; have BK171 := n1_; have BK176 := n2_; have HO_177000 := n3_; have HB := n4_; have HO189 := n5_; clear n0_ n1_ n2_ n3_ n4_ n5_; clear ho hb hg hat))
            go_roundg k1
            case measure => have := HK1.out; omega
            case rel => exact ⟨(y187), (wrap64 (x22_1 + 1)), (y186), (.slice (some ⟨go43, 0, none⟩) x177000_1.length co40), (by first | rfl | (simp; done) | (simp [*]; done)), H', ⟨by have := HK1.out; omega⟩, ⟨rdl HO189⟩, ⟨by (with_reducible repeat (first | apply Kd.S_alloc | apply Kd.S_drewN | apply Kd.S_drew)); exact Kd.S_mono HO_177000.out (fun _ hk => hk.2)⟩, ⟨bkl BK170⟩, ⟨bkl BK171⟩, ⟨bkl BK176⟩, ⟨bel3 HB GE170 GE171 GE176⟩⟩
           ·rw [if_neg c36] at H
            exact absurd H (by simp)
          ·rw [if_neg c34] at H
           exact absurd H (by simp)
         ·rw [if_neg c33] at H
          exact absurd H (by simp)
        ·rw [if_neg c32] at H
         exact absurd H (by simp)
      ·rw [if_neg c22] at H
       exact absurd H (by simp)
     ·rw [if_neg c21] at H
      exact absurd H (by simp)
    ·rw [if_neg c20] at H
     have c20b0 : decide (x22_1 < (l1.length : Int)) = false := decide_eq_false c20
     clear c20
     simp only [Option.some.injEq, Prod.mk.injEq] at H
     obtain ⟨rfl, rfl, rfl⟩ := H
     have hnb49 := NB176_170.out
     have hnc49 := NB170_176.out
     have hnb50 := NB176_171.out
     have hnc50 := NB171_176.out
     have hcz51_0 : wr.cell? ⟨gb176, 0, none⟩ = some (u177000) := (blk_cell BK176.out 0).trans rfl
     have hfz51_0 := blk_frozen BK176.out 0
     obtain ⟨Ao52, co52, eo52⟩ := Kd.S_slice HO_177000.out
     subst eo52
     have hnb53 := NB171_170.out
     have hnc53 := NB170_171.out
     have hcz54_0 : wr.cell? ⟨gb171, 0, none⟩ = some (.slice none 0 0) := (blk_cell BK171.out 0).trans rfl
     have hfz54_0 := blk_frozen BK171.out 0
     go_wp2
     refine bodyPost_ret (results_ctt rfl _ _ gb171 28 #[.slice Ao52 x177000_1.length co52] (0, 0) _ rfl (by (with_reducible repeat (first | refine blk_drewN ?_ _ | refine blk_drew ?_ | refine blk_alloc ?_ _)); refine blk_put (cs := #[.slice none 0 0]) ?_ 0 _ rfl; (with_reducible repeat (first | refine blk_drewN ?_ _ | refine blk_drew ?_ | refine blk_alloc ?_ _)); exact BK171.out) Try.underlying28 rfl (by kernel_rfl)) rfl ?_
     exact ⟨_, _, by first | rfl | (simp [errW_none, errW_some] <;> rfl) | (simp [*, errW_none, errW_some] <;> rfl), by (with_reducible repeat (first | apply Kd.S_alloc | apply Kd.S_drewN | apply Kd.S_drew)); exact Kd.S_mono (Kd.S_far (p := ⟨gb171, 0, none⟩) (Kd.S_types HO_177000.out BK171.out (by decide)) (fun _ hk => hk.2) (.slice Ao52 x177000_1.length co52)) (fun _ hk => hk.1), by (with_reducible repeat (first | apply Kd.R_alloc | apply Kd.R_drewN | apply Kd.R_drew)); exact Kd.R_mono (Kd.R_far (p := ⟨gb171, 0, none⟩) (Kd.R_types HO_8.out BK171.out (by decide)) (fun _ hk => hk.2) (.slice Ao52 x177000_1.length co52)) (fun _ hk => trivial), bel3 HB GE170 GE171 GE176⟩
 ·replace c4 := Bool.eq_false_iff.mpr c4
  subst c4
  have H1 : (some (([] : List (List Int)), ([] : List Int), false)) = some (r1, r2, r3) := by rw [if_neg (show ¬ (false = true) by decide)] at H; exact H
  clear H
  have H := H1
  clear H1
  simp only [Option.some.injEq, Prod.mk.injEq] at H
  obtain ⟨rfl, rfl, rfl⟩ := H
  go_enter Try.func31, Try.ntmps31
  go_wp2_with (first | ((with_reducible refine gate_dst (N := 2) rfl ?_); refine box_event ?hg (N := 2) ?hd (cs := #[.slice A0_0 l0_0.length c0_0]) (t := 28) ?hr ?_; (case hd => rfl); (case hg => rfl); (case hr => first | (go_simp; done) | (go_simp; rfl)); intro gb170 hg w55 hbox hb; have n0_ := Aside0.mk (below_step (bel HB) hb); have n1_ := Aside0.mk (hbox); have n2_ := Aside0.mk ((by rw [hg]; exact (below_size (bel HB)) : w.heap.size ≤ gb170)); have n3_ := Aside0.mk ((by rw [hg]; exact (below_size (bel HB)) : w.heap.size ≤ gb170)); clear HB; have HB := n0_; have BK170 := n1_; have GW170 := n2_; have GE170 := n3_; clear n0_ n1_ n2_ n3_; clear hb hbox hg) | ((with_reducible refine gate_dst (N := 4) rfl ?_); refine box_event ?hg (N := 4) ?hd (cs := #[.slice none 0 0]) (t := 28) ?hr ?_; (case hd => rfl); (case hg => rfl); (case hr => first | (go_simp; done) | (go_simp; rfl)); intro gb171 hg w56 hbox hb; have n0_ := Aside0.mk (blk_below (g := gb170) (o := .cells #[.slice A0_0 l0_0.length c0_0] 28 (0, 0)) (bkl BK170) hb); have n1_ := Aside0.mk (below_step (bel1 HB GE170) hb); have n2_ := Aside0.mk (hbox); have n3_ := Aside0.mk ((by rw [hg]; exact (below_size (bel1 HB GE170)) : w.heap.size ≤ gb171)); have n4_ := Aside0.mk ((by rw [hg]; exact (below_size (bel1 HB GE170)) : w.heap.size ≤ gb171)); have n5_ := Aside0.mk ((by rw [hg]; exact Nat.ne_of_lt (blk_lt (g := gb170) (o := .cells #[.slice A0_0 l0_0.length c0_0] 28 (0, 0)) (bkl BK170)) : gb170 ≠ gb171)); have n6_ := Aside0.mk ((by rw [hg]; exact Nat.ne_of_gt (blk_lt (g := gb170) (o := .cells #[.slice A0_0 l0_0.length c0_0] 28 (0, 0)) (bkl BK170)) : gb171 ≠ gb170)); clear BK170; clear HB; have BK170 := n0_; have HB := n1_; have BK171 := n2_; have GW171 := n3_; have GE171 := n4_; have NB170_171 := n5_; have NB171_170 := n6_; clear n0_ n1_ n2_ n3_ n4_ n5_ n6_; clear hb hbox hg; have hnb57 := NB170_171.out; have hnc57 := NB171_170.out; have hcz58_0 : w56.cell? ⟨gb170, 0, none⟩ = some (.slice A0_0 l0_0.length c0_0) := (blk_cell BK170.out 0).trans rfl; have hfz58_0 := blk_frozen BK170.out 0) | ((with_reducible refine gate_callee (f := 62) rfl ?_); refine goesL_ (some 14) rfl rfl Try.func62 (by kernel_rfl) rfl #[.agg #[.slice A0_0 l0_0.length c0_0], .slice A1 l1.length c1] rfl gmp ?_; (with_reducible refine (impl_areArrivals.calls k _ _ l0_0 _ _ l1 false _ ?side1 ?side2 ?side3 ?side4 A3.out).mono ?_); (case side1 => exact cdl (Kd.C_below HR0_0.out HB.out)); (case side2 => exact HC0_0.out); (case side3 => exact cdl (Kd.C_below HR1.out HB.out)); (case side4 => exact HC1.out); rintro e w59 ⟨rfl, hb⟩; refine ⟨_, rfl, ?_⟩; have n0_ := Aside0.mk (blk_below (g := gb170) (o := .cells #[.slice A0_0 l0_0.length c0_0] 28 (0, 0)) (bkl BK170) hb); have n1_ := Aside0.mk (blk_below (g := gb171) (o := .cells #[.slice none 0 0] 28 (0, 0)) (bkl BK171) hb); have n2_ := Aside0.mk (below_step (bel2 HB GE170 GE171) hb); clear BK170; clear BK171; clear HB; have BK170 := n0_; have BK171 := n1_; have HB := n2_; clear n0_ n1_ n2_; (try clear hb); (try clear hb2); (try clear hk); (try clear hi); have hcz60_0 : w59.cell? ⟨gb171, 0, none⟩ = some (.slice none 0 0) := (blk_cell BK171.out 0).trans rfl; have hfz60_0 := blk_frozen BK171.out 0))
  refine bodyPost_ret (results_ctt rfl _ _ gb171 28 #[.slice none 0 0] (0, 0) _ rfl (by (with_reducible repeat (first | refine blk_drewN ?_ _ | refine blk_drew ?_ | refine blk_alloc ?_ _)); refine blk_put (cs := #[.slice none 0 0]) ?_ 0 _ rfl; (with_reducible repeat (first | refine blk_drewN ?_ _ | refine blk_drew ?_ | refine blk_alloc ?_ _)); exact BK171.out) Try.underlying28 rfl (by kernel_rfl)) rfl ?_
  exact ⟨_, _, by first | rfl | (simp [errW_none, errW_some] <;> rfl) | (simp [*, errW_none, errW_some] <;> rfl), by first | exact Kd.S_nil _ _ _ _ _ | exact Kd.N_nil _ _ _ _ _ | exact Kd.V_nil _ _ _ _ _ | exact Kd.Q_nil _ _ _ _ _ | exact Kd.R_nil _ _ _ _ _, by first | exact Kd.R_nil _ _ _ _ _ | exact Kd.N_nil _ _ _ _ _ | exact Kd.V_nil _ _ _ _ _ | exact Kd.Q_nil _ _ _ _ _ | exact Kd.S_nil _ _ _ _ _, bel2 HB GE170 GE171⟩

/-! ### spec_l1In: function 73 -/
def spec_l1In.f (a0 : Int) (a1 : Int) (a2 : Int) : Option (Bool) := if a0 ≥ a1 then (some (decide (a0 ≤ a2))) else (some false)
set_option maxHeartbeats 8000000 in
set_option maxRecDepth 100000 in
theorem spec_l1In.calls (a0 : Int) (a1 : Int) (a2 : Int) (r : Bool) (w : World) (h : spec_l1In.f a0 a1 a2 = some r) :
  Calls Try.prog 73 #[.int .i64 a0, .int .i64 a1, .int .i64 a2] w fun e w' => e = .returned (.bool r) ∧ Drawn0 w w' := by
 have H : (if a0 ≥ a1 then (some (decide (a0 ≤ a2))) else (some false)) = some r := h
 clear h
 by_cases c4 : a0 ≥ a1
 ·rw [if_pos c4] at H
  have c4b0 : decide (a1 ≤ a0) = true := decide_eq_true c4
  clear c4
  obtain rfl := Option.some.inj H
  go_enter Try.func73, Try.ntmps73
  go_wp2
  go_ret
  exact ⟨by first | rfl | (simp; done) | (simp [*]; done), by repeat (first | exact Drawn0.refl _ | apply Drawn0.step)⟩
 ·rw [if_neg c4] at H
  have c4b0 : decide (a1 ≤ a0) = false := decide_eq_false c4
  clear c4
  obtain rfl := Option.some.inj H
  go_enter Try.func73, Try.ntmps73
  go_wp2
  go_ret
  exact ⟨by first | rfl | (simp; done) | (simp [*]; done), by repeat (first | exact Drawn0.refl _ | apply Drawn0.step)⟩

end Go.Proofs.Ytchjkaondonldaa.P
