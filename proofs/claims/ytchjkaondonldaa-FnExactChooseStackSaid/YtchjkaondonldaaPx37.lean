-- Written by a program of this session over the translation (a variant of the printer, see wip/gen); Lean checks it.
import Derived.Test.YtchjkaondonldaaPx0
import Derived.Test.YtchjkaondonldaaPx13
namespace Go.Proofs.Ytchjkaondonldaa.P
open Go.RowKit Go.Proofs.YtchjkaondonldaaW.PrintWords Go.Proofs.YtchjkaondonldaaW.PrintLast Go.Proofs.YtchjkaondonldaaW.PrintMore
attribute [local go_sem] Go.Proofs.Ytchjkaondonldaa.V.isSome_setCell max2_int min2_int max_two min_two max_three min_three max_four min_four   -- for this text's walks alone
set_option linter.unusedVariables false
set_option linter.unusedSimpArgs false

/-! ### spec_l8Choose: function 71 -/
mutual
def spec_l8Choose.l0 : Nat → Int → Int → Int → Int → List (List Int) → Option (Int)
  | 0, _, _, _, _, _ => none
  | k + 1, x1, x5, x6, x7, x490000 => if x7 < (x490000.length : Int) then (if 0 ≤ x7 then (if ((rd_L1 x490000 x7).length : Int) = 4 then (spec_l8Choose.l0 k x1 x5 x6 (wrap64 (x7 + 1)) x490000) else ((spec_l8Earliest.f k (rd_L1 x490000 x7)).bind fun t492 => (if t492 > x1 then (if x5 < 0 then (spec_l8Choose.j1 k x1 x5 x6 x7 t492 true x490000) else (if 0 ≤ x5 then (if x5 < (x490000.length : Int) then ((spec_l8Earliest.f k (rd_L1 x490000 x5)).bind fun t494 => (spec_l8Choose.j1 k x1 x5 x6 x7 t492 (decide (t492 < t494)) x490000)) else (none)) else (none))) else (spec_l8Choose.j1 k x1 x5 x6 x7 t492 false x490000)))) else (none)) else (if x5 ≥ 0 then (some x5) else (some x6))
def spec_l8Choose.j1 : Nat → Int → Int → Int → Int → Int → Bool → List (List Int) → Option (Int)
  | 0, _, _, _, _, _, _, _ => none
  | k + 1, x1, x5, x6, x7, x8, x45, x490000 => if x45 = true then (if x6 < 0 then (spec_l8Choose.l0 k x1 x7 x7 (wrap64 (x7 + 1)) x490000) else (if 0 ≤ x6 then (if x6 < (x490000.length : Int) then ((spec_l8Earliest.f k (rd_L1 x490000 x6)).bind fun t496 => (if x8 > t496 then (spec_l8Choose.l0 k x1 x7 x7 (wrap64 (x7 + 1)) x490000) else (spec_l8Choose.l0 k x1 x7 x6 (wrap64 (x7 + 1)) x490000))) else (none)) else (none))) else (if x6 < 0 then (spec_l8Choose.l0 k x1 x5 x7 (wrap64 (x7 + 1)) x490000) else (if 0 ≤ x6 then (if x6 < (x490000.length : Int) then ((spec_l8Earliest.f k (rd_L1 x490000 x6)).bind fun t498 => (if x8 > t498 then (spec_l8Choose.l0 k x1 x5 x7 (wrap64 (x7 + 1)) x490000) else (spec_l8Choose.l0 k x1 x5 x6 (wrap64 (x7 + 1)) x490000))) else (none)) else (none)))
end
def spec_l8Choose.f (k : Nat) (l0_0 : List (List Int)) (a1 : Int) : Option (Int) := spec_l8Choose.l0 k a1 (-1) (-1) 0 l0_0
theorem spec_l8Choose.mono_l : ∀ k, (∀ y0 y1 y2 y3 y4, LeO (spec_l8Choose.l0 k y0 y1 y2 y3 y4) (spec_l8Choose.l0 (k + 1) y0 y1 y2 y3 y4)) ∧ (∀ y0 y1 y2 y3 y4 y5 y6, LeO (spec_l8Choose.j1 k y0 y1 y2 y3 y4 y5 y6) (spec_l8Choose.j1 (k + 1) y0 y1 y2 y3 y4 y5 y6))
  | 0 => ⟨fun _ _ _ _ _ r h => by simp [spec_l8Choose.l0] at h, fun _ _ _ _ _ _ _ r h => by simp [spec_l8Choose.j1] at h⟩
  | k + 1 => by
    obtain ⟨ih0, ih1⟩ := spec_l8Choose.mono_l k
    refine ⟨?_, ?_⟩
    · intro y0 y1 y2 y3 y4
      unfold spec_l8Choose.l0
      repeat' first
      | (with_reducible exact ih0 _ _ _ _ _)
      | (with_reducible exact ih1 _ _ _ _ _ _ _)
      | (with_reducible exact spec_l8Earliest.mono _ _)
      | (with_reducible exact LeO.refl _)
      | (with_reducible exact LeO.none _)
      | (with_reducible refine LeO.ite ?_ ?_)
      | (with_reducible refine LeO.bind ?_ (fun _ => ?_))
      | exact ih0 _ _ _ _ _
      | exact ih1 _ _ _ _ _ _ _
      | exact spec_l8Earliest.mono _ _
      | exact LeO.none _
      | refine LeO.ite ?_ ?_
      | refine LeO.bind ?_ (fun _ => ?_)
    · intro y0 y1 y2 y3 y4 y5 y6
      unfold spec_l8Choose.j1
      repeat' first
      | (with_reducible exact ih0 _ _ _ _ _)
      | (with_reducible exact ih1 _ _ _ _ _ _ _)
      | (with_reducible exact spec_l8Earliest.mono _ _)
      | (with_reducible exact LeO.refl _)
      | (with_reducible exact LeO.none _)
      | (with_reducible refine LeO.ite ?_ ?_)
      | (with_reducible refine LeO.bind ?_ (fun _ => ?_))
      | exact ih0 _ _ _ _ _
      | exact ih1 _ _ _ _ _ _ _
      | exact spec_l8Earliest.mono _ _
      | exact LeO.none _
      | refine LeO.ite ?_ ?_
      | refine LeO.bind ?_ (fun _ => ?_)
theorem spec_l8Choose.mono : ∀ a0 a1 k, LeO (spec_l8Choose.f k a0 a1) (spec_l8Choose.f (k + 1) a0 a1) := by
  intro a0 a1 k
  obtain ⟨ih0, ih1⟩ := spec_l8Choose.mono_l k
  unfold spec_l8Choose.f
  repeat' first
      | (with_reducible exact ih0 _ _ _ _ _)
      | (with_reducible exact ih1 _ _ _ _ _ _ _)
      | (with_reducible exact spec_l8Earliest.mono _ _)
      | (with_reducible exact LeO.refl _)
      | (with_reducible exact LeO.none _)
      | (with_reducible refine LeO.ite ?_ ?_)
      | (with_reducible refine LeO.bind ?_ (fun _ => ?_))
      | exact ih0 _ _ _ _ _
      | exact ih1 _ _ _ _ _ _ _
      | exact spec_l8Earliest.mono _ _
      | exact LeO.none _
      | refine LeO.ite ?_ ?_
      | refine LeO.bind ?_ (fun _ => ?_)
set_option maxHeartbeats 8000000 in
set_option maxRecDepth 100000 in
theorem spec_l8Choose.calls (k : Nat) (A0_0 : Option Addr) (c0_0 : Nat) (l0_0 : List (List Int)) (a1 : Int) (r : Int) (w : World) (hr0_0 : Kd.C (Kd.slice 3 (Kd.int .i64)) w A0_0 l0_0.length l0_0) (hc0_0 : l0_0.length ≤ c0_0) (h : spec_l8Choose.f k l0_0 a1 = some r) :
    Calls Try.prog 71 #[.agg #[.slice A0_0 l0_0.length c0_0], .int .i64 a1] w fun e w' => e = .returned (.int .i64 r) ∧ Below w.heap.size w w' := by
  have hu28 := Try.underlying28
  have HR0_0 := Aside0.mk hr0_0
  have HC0_0 := Aside0.mk hc0_0
  clear hr0_0 hc0_0
  have HB := Aside0.mk (Below.refl w.heap.size w)
  have H : (spec_l8Choose.l0 k a1 (-1) (-1) 0 l0_0) = some r := h
  clear h
  have H' := Aside0.mk H
  clear H
  go_enter Try.func71, Try.ntmps71
  go_wp2_with (first | ((with_reducible refine gate_dst (N := 2) rfl ?_); refine box_event ?hg (N := 2) ?hd (cs := #[.slice A0_0 l0_0.length c0_0]) (t := 28) ?hr ?_; (case hd => rfl); (case hg => rfl); (case hr => first | (go_simp; done) | (go_simp; rfl)); intro gb489 hg w3 hbox hb; have n0_ := Aside0.mk (below_step (by repeat (first | (with_reducible first | exact HB.out | apply below_alloc | apply pw_below_drewN | apply below_drew1) | exact HB.out)) hb); have n1_ := Aside0.mk (hbox); have n2_ := Aside0.mk ((by rw [hg]; exact (below_size (by repeat (first | (with_reducible first | exact HB.out | apply below_alloc | apply pw_below_drewN | apply below_drew1) | exact HB.out))) : w.heap.size ≤ gb489)); have n3_ := Aside0.mk ((by rw [hg]; exact (below_size (by repeat (first | (with_reducible first | exact HB.out | apply below_alloc | apply pw_below_drewN | apply below_drew1) | exact HB.out))) : w.heap.size ≤ gb489)); clear HB; have HB := n0_; have BK489 := n1_; have GW489 := n2_; have GE489 := n3_; clear n0_ n1_ n2_ n3_; clear hb hbox hg))
  go_loopg [5, 6, 7] k (fun kq v5 v6 v7 w' => ∃ (x5_1 : Int) (x6_1 : Int) (x7_1 : Int), v5 = .int .i64 x5_1 ∧ v6 = .int .i64 x6_1 ∧ v7 = .int .i64 x7_1 ∧ Aside0 (spec_l8Choose.l0 kq a1 x5_1 x6_1 x7_1 l0_0 = some r) ∧ Aside0 (kq ≤ k) ∧ Aside0 (w'.heap[gb489]? = some (.cells #[(.slice A0_0 l0_0.length c0_0)] 28 (0, 0))) ∧ Aside0 (Below w.heap.size w w'))
  case atStart => exact ⟨((-1)), ((-1)), (0), (by first | rfl | (simp; done) | (simp [*]; done)), (by first | rfl | (simp; done) | (simp [*]; done)), (by first | rfl | (simp; done) | (simp [*]; done)), H', ⟨Nat.le_refl _⟩, ⟨by (with_reducible repeat (first | refine blk_drewN ?_ _ | refine blk_drew ?_ | refine blk_alloc ?_ _)); exact BK489.out⟩, ⟨by repeat (first | (with_reducible first | exact HB.out | apply below_alloc | apply pw_below_drewN | apply below_drew1 | refine below_set ?_ GE489.out) | exact HB.out)⟩⟩
  case round =>
    clear H'
    try clear p2
    obtain ⟨x5_1, x6_1, x7_1, rfl, rfl, rfl, HA, HK1, BK489, HB⟩ := hrel
    cases gk with
    | zero => exact absurd HA.out (by simp [spec_l8Choose.l0])
    | succ k1 =>
      have H := HA.out
      clear HA
      simp only [spec_l8Choose.l0] at H
      by_cases c4 : x7_1 < (l0_0.length : Int)
      · rw [if_pos c4] at H
        have c4b0 : decide (x7_1 < (l0_0.length : Int)) = true := decide_eq_true c4
        clear c4
        by_cases c5 : 0 ≤ x7_1
        · rw [if_pos c5] at H
          have c5b0 : decide (0 ≤ x7_1) = true := decide_eq_true c5
          clear c5
          by_cases c6 : ((rd_L1 l0_0 x7_1).length : Int) = 4
          · rw [if_pos c6] at H
            have c6b0 : (((rd_L1 l0_0 x7_1).length : Int) == 4) = true := beq_iff_eq.mpr c6
            have c6b1 : (((rd_L1 l0_0 x7_1).length : Int) != 4) = false := bne_eq_false_iff_eq.mpr c6
            clear c6
            have H' := Aside0.mk H
            clear H
            have hcz7_0 : wr.cell? ⟨gb489, 0, none⟩ = some (.slice A0_0 l0_0.length c0_0) := (blk_cell BK489.out 0).trans rfl
            have hfz7_0 := blk_frozen BK489.out 0
            have p490 : 0 ≤ (x7_1 : Int) := of_decide_eq_true (by first | (with_reducible assumption) | assumption)
            have q490 : x7_1 < (l0_0.length : Int) := of_decide_eq_true (by first | (with_reducible assumption) | assumption)
            obtain ⟨ad490, A490_0, c490_0, e490, hx490_0, hl490_0, hi490_0⟩ := at_L1 HR0_0.out x7_1 p490 q490
            cases e490
            replace hx490_0 := (HB.out.cell (World.block_lt_of_cell? w _ hx490_0)).trans hx490_0
            have HR490_0 := Aside0.mk hi490_0
            have HC490_0 := Aside0.mk hl490_0
            clear hi490_0 hl490_0
            replace p490 := eq_true p490
            replace q490 := eq_true q490
            go_wp2
            go_roundg k1
            case measure => have := HK1.out; omega
            case rel => exact ⟨(x5_1), (x6_1), (wrap64 (x7_1 + 1)), (by first | rfl | (simp; done) | (simp [*]; done)), (by first | rfl | (simp; done) | (simp [*]; done)), (by first | rfl | (simp; done) | (simp [*]; done)), H', ⟨by have := HK1.out; omega⟩, ⟨by (with_reducible repeat (first | refine blk_drewN ?_ _ | refine blk_drew ?_ | refine blk_alloc ?_ _)); exact BK489.out⟩, ⟨by repeat (first | (with_reducible first | exact HB.out | apply below_alloc | apply pw_below_drewN | apply below_drew1 | refine below_set ?_ GE489.out) | exact HB.out)⟩⟩
          · rw [if_neg c6] at H
            have c6b0 : (((rd_L1 l0_0 x7_1).length : Int) == 4) = false := beq_eq_false_iff_ne.mpr c6
            have c6b1 : (((rd_L1 l0_0 x7_1).length : Int) != 4) = true := bne_iff_ne.mpr c6
            replace H := Option.bind_eq_some_iff.mp H
            obtain ⟨t492, A80, H⟩ := H
            replace H : (if t492 > a1 then (if x5_1 < 0 then (spec_l8Choose.j1 k1 a1 x5_1 x6_1 x7_1 t492 true l0_0) else (if 0 ≤ x5_1 then (if x5_1 < (l0_0.length : Int) then ((spec_l8Earliest.f k1 (rd_L1 l0_0 x5_1)).bind fun t494 => (spec_l8Choose.j1 k1 a1 x5_1 x6_1 x7_1 t492 (decide (t492 < t494)) l0_0)) else (none)) else (none))) else (spec_l8Choose.j1 k1 a1 x5_1 x6_1 x7_1 t492 false l0_0)) = some r := H
            have A8 := Aside0.mk A80
            clear A80
            have HC9 := Aside0.mk H
            clear H
            have hcz10_0 : wr.cell? ⟨gb489, 0, none⟩ = some (.slice A0_0 l0_0.length c0_0) := (blk_cell BK489.out 0).trans rfl
            have hfz10_0 := blk_frozen BK489.out 0
            have p490 : 0 ≤ (x7_1 : Int) := of_decide_eq_true (by first | (with_reducible assumption) | assumption)
            have q490 : x7_1 < (l0_0.length : Int) := of_decide_eq_true (by first | (with_reducible assumption) | assumption)
            obtain ⟨ad490, A490_0, c490_0, e490, hx490_0, hl490_0, hi490_0⟩ := at_L1 HR0_0.out x7_1 p490 q490
            cases e490
            replace hx490_0 := (HB.out.cell (World.block_lt_of_cell? w _ hx490_0)).trans hx490_0
            have HR490_0 := Aside0.mk hi490_0
            have HC490_0 := Aside0.mk hl490_0
            clear hi490_0 hl490_0
            replace p490 := eq_true p490
            replace q490 := eq_true q490
            have p491 : 0 ≤ (x7_1 : Int) := of_decide_eq_true (by first | (with_reducible assumption) | assumption)
            have q491 : x7_1 < (l0_0.length : Int) := of_decide_eq_true (by first | (with_reducible assumption) | assumption)
            obtain ⟨ad491, A491_0, c491_0, e491, hx491_0, hl491_0, hi491_0⟩ := at_L1 HR0_0.out x7_1 p491 q491
            obtain rfl : ad490 = ad491 := (by injection e491)
            replace hx491_0 := (HB.out.cell (World.block_lt_of_cell? w _ hx491_0)).trans hx491_0
            have HR491_0 := Aside0.mk hi491_0
            have HC491_0 := Aside0.mk hl491_0
            clear hi491_0 hl491_0
            replace p491 := eq_true p491
            replace q491 := eq_true q491
            have ea_ := Option.some.inj (hx490_0.symm.trans hx491_0)
            injection ea_ with ea_ en_ ec_
            subst ea_
            subst ec_
            clear en_
            go_upto_region 7 with (first | ((with_reducible refine gate_callee (f := 53) rfl ?_); refine goesL_ (some 28) rfl rfl Try.func53 (by kernel_rfl) rfl #[.slice A490_0 (rd_L1 l0_0 x7_1).length c490_0] rfl (by (try simp only [List.map_toArray, List.map_cons, List.map_nil]); first | done | rfl | (simp only [List.length_drop, List.length_take]; rfl)) ?_; (with_reducible refine (spec_l8Earliest.calls k1 _ _ (rd_L1 l0_0 x7_1) t492 _ ?side1 ?side2 A8.out).mono ?_); (case side1 => repeat (first | exact (Kd.C_below HR491_0.out HB.out) | (with_reducible refine Kd.C_alloc ?_ _) | (with_reducible refine Kd.C_drewN ?_ _) | (with_reducible refine Kd.C_drew ?_))); (case side2 => exact HC491_0.out); rintro e w' ⟨rfl, ⟨nd, rfl⟩⟩; refine ⟨_, rfl, ?_⟩))
            (try simp only [Act.put, List.setIfInBounds_toArray, List.set_cons_zero, List.set_cons_succ])
            go_cut [45] (fun v45 wc => ∃ (kq : Nat) (x45_8 : Bool), v45 = .bool x45_8 ∧ Aside0 (spec_l8Choose.j1 kq a1 x5_1 x6_1 x7_1 t492 x45_8 l0_0 = some r) ∧ Aside0 (kq ≤ k1) ∧ Aside0 (wc.heap[gb489]? = some (.cells #[(.slice (some ad490) l0_0.length c0_0)] 28 (0, 0))) ∧ Aside0 (Below w.heap.size w wc))
            case first =>
              have H := HC9.out
              clear HC9
              by_cases c11 : t492 > a1
              · rw [if_pos c11] at H
                have c11b0 : decide (a1 < t492) = true := decide_eq_true c11
                clear c11
                (first | rw [c11b0] | (simp only [i64_w, i32_w]; rw [c11b0]) | skip)
                by_cases c12 : x5_1 < 0
                · rw [if_pos c12] at H
                  have c12b0 : decide (x5_1 < 0) = true := decide_eq_true c12
                  clear c12
                  have H' := Aside0.mk H
                  clear H
                  go_wp2
                  go_meet
                  case rel => exact ⟨_, (true), (by first | rfl | (simp; done) | (simp [*]; done)), H', ⟨by have := HK1.out; first | omega | exact Nat.le_refl _⟩, ⟨by (with_reducible repeat (first | refine blk_drewN ?_ _ | refine blk_drew ?_ | refine blk_alloc ?_ _)); exact BK489.out⟩, ⟨by repeat (first | (with_reducible first | exact HB.out | apply below_alloc | apply pw_below_drewN | apply below_drew1 | refine below_set ?_ GE489.out) | exact HB.out)⟩⟩
                · rw [if_neg c12] at H
                  have c12b0 : decide (x5_1 < 0) = false := decide_eq_false c12
                  clear c12
                  by_cases c13 : 0 ≤ x5_1
                  · rw [if_pos c13] at H
                    have c13b0 : decide (0 ≤ x5_1) = true := decide_eq_true c13
                    clear c13
                    by_cases c14 : x5_1 < (l0_0.length : Int)
                    · rw [if_pos c14] at H
                      have c14b0 : decide (x5_1 < (l0_0.length : Int)) = true := decide_eq_true c14
                      clear c14
                      replace H := Option.bind_eq_some_iff.mp H
                      obtain ⟨t494, A150, H⟩ := H
                      replace H : (spec_l8Choose.j1 k1 a1 x5_1 x6_1 x7_1 t492 (decide (t492 < t494)) l0_0) = some r := H
                      have A15 := Aside0.mk A150
                      clear A150
                      have H' := Aside0.mk H
                      clear H
                      have hcz16_0 : wr.cell? ⟨gb489, 0, none⟩ = some (.slice (some ad490) l0_0.length c0_0) := (blk_cell BK489.out 0).trans rfl
                      have hfz16_0 := blk_frozen BK489.out 0
                      have p493 : 0 ≤ (x5_1 : Int) := of_decide_eq_true (by first | (with_reducible assumption) | assumption)
                      have q493 : x5_1 < (l0_0.length : Int) := of_decide_eq_true (by first | (with_reducible assumption) | assumption)
                      obtain ⟨ad493, A493_0, c493_0, e493, hx493_0, hl493_0, hi493_0⟩ := at_L1 HR0_0.out x5_1 p493 q493
                      obtain rfl : ad490 = ad493 := (by injection e493)
                      replace hx493_0 := (HB.out.cell (World.block_lt_of_cell? w _ hx493_0)).trans hx493_0
                      have HR493_0 := Aside0.mk hi493_0
                      have HC493_0 := Aside0.mk hl493_0
                      clear hi493_0 hl493_0
                      replace p493 := eq_true p493
                      replace q493 := eq_true q493
                      go_wp2_with (first | (go_at_call 53; (with_reducible refine (spec_l8Earliest.calls k1 _ _ (rd_L1 l0_0 x5_1) t494 _ ?side1 ?side2 A15.out).mono ?_); (case side1 => repeat (first | exact (Kd.C_below HR493_0.out HB.out) | (with_reducible refine Kd.C_alloc ?_ _) | (with_reducible refine Kd.C_drewN ?_ _) | (with_reducible refine Kd.C_drew ?_))); (case side2 => exact HC493_0.out); rintro e w' ⟨rfl, ⟨nd, rfl⟩⟩))
                      go_meet
                      case rel => exact ⟨_, (decide (t492 < t494)), (by first | rfl | (simp; done) | (simp [*]; done)), H', ⟨by have := HK1.out; first | omega | exact Nat.le_refl _⟩, ⟨by (with_reducible repeat (first | refine blk_drewN ?_ _ | refine blk_drew ?_ | refine blk_alloc ?_ _)); exact BK489.out⟩, ⟨by repeat (first | (with_reducible first | exact HB.out | apply below_alloc | apply pw_below_drewN | apply below_drew1 | refine below_set ?_ GE489.out) | exact HB.out)⟩⟩
                    · rw [if_neg c14] at H
                      exact absurd H (by simp)
                  · rw [if_neg c13] at H
                    exact absurd H (by simp)
              · rw [if_neg c11] at H
                have c11b0 : decide (a1 < t492) = false := decide_eq_false c11
                clear c11
                (first | rw [c11b0] | (simp only [i64_w, i32_w]; rw [c11b0]) | skip)
                have H' := Aside0.mk H
                clear H
                go_wp2
                go_meet
                case rel => exact ⟨_, (false), (by first | rfl | (simp; done) | (simp [*]; done)), H', ⟨by have := HK1.out; first | omega | exact Nat.le_refl _⟩, ⟨by (with_reducible repeat (first | refine blk_drewN ?_ _ | refine blk_drew ?_ | refine blk_alloc ?_ _)); exact BK489.out⟩, ⟨by repeat (first | (with_reducible first | exact HB.out | apply below_alloc | apply pw_below_drewN | apply below_drew1 | refine below_set ?_ GE489.out) | exact HB.out)⟩⟩
            case rest =>
              clear HC9
              try clear c1
              try clear p2
              try clear c4
              try clear c4b0
              try clear p4
              try clear q4
              try clear hx4
              try clear c5
              try clear c5b0
              try clear c6
              try clear c6b0
              try clear c6b1
              try clear p6
              try clear c7
              try clear c11
              try clear c11b0
              try clear c12
              try clear c12b0
              try clear c13
              try clear c13b0
              try clear c14
              try clear c14b0
              try clear hcz10_0
              try clear hcz16_0
              try clear hcz7_0
              try clear hfz10_0
              try clear hfz16_0
              try clear hfz7_0
              try clear hx490_0
              try clear hx491_0
              try clear hx493_0
              try clear p2
              try clear p490
              try clear p491
              try clear p493
              try clear q490
              try clear q491
              try clear q493
              obtain ⟨kq, x45_8, rfl, HA, HJ8, BK489, HB⟩ := hcut
              cases kq with
              | zero => exact absurd HA.out (by simp [spec_l8Choose.j1])
              | succ kj8 =>
                have H := HA.out
                clear HA
                simp only [spec_l8Choose.j1] at H
                by_cases c17 : x45_8 = true
                · subst c17
                  have H1 : (if x6_1 < 0 then (spec_l8Choose.l0 kj8 a1 x7_1 x7_1 (wrap64 (x7_1 + 1)) l0_0) else (if 0 ≤ x6_1 then (if x6_1 < (l0_0.length : Int) then ((spec_l8Earliest.f kj8 (rd_L1 l0_0 x6_1)).bind fun t496 => (if t492 > t496 then (spec_l8Choose.l0 kj8 a1 x7_1 x7_1 (wrap64 (x7_1 + 1)) l0_0) else (spec_l8Choose.l0 kj8 a1 x7_1 x6_1 (wrap64 (x7_1 + 1)) l0_0))) else (none)) else (none))) = some r := by rw [if_pos rfl] at H; exact H
                  clear H
                  have H := H1
                  clear H1
                  by_cases c18 : x6_1 < 0
                  · rw [if_pos c18] at H
                    have c18b0 : decide (x6_1 < 0) = true := decide_eq_true c18
                    clear c18
                    have H' := Aside0.mk H
                    clear H
                    go_wp2
                    go_roundg kj8
                    case measure => have := HK1.out; have := HJ8.out; omega
                    case rel => exact ⟨(x7_1), (x7_1), (wrap64 (x7_1 + 1)), (by first | rfl | (simp; done) | (simp [*]; done)), (by first | rfl | (simp; done) | (simp [*]; done)), (by first | rfl | (simp; done) | (simp [*]; done)), H', ⟨by have := HK1.out; have := HJ8.out; omega⟩, ⟨by (with_reducible repeat (first | refine blk_drewN ?_ _ | refine blk_drew ?_ | refine blk_alloc ?_ _)); exact BK489.out⟩, ⟨by repeat (first | (with_reducible first | exact HB.out | apply below_alloc | apply pw_below_drewN | apply below_drew1 | refine below_set ?_ GE489.out) | exact HB.out)⟩⟩
                  · rw [if_neg c18] at H
                    have c18b0 : decide (x6_1 < 0) = false := decide_eq_false c18
                    clear c18
                    by_cases c19 : 0 ≤ x6_1
                    · rw [if_pos c19] at H
                      have c19b0 : decide (0 ≤ x6_1) = true := decide_eq_true c19
                      clear c19
                      by_cases c20 : x6_1 < (l0_0.length : Int)
                      · rw [if_pos c20] at H
                        have c20b0 : decide (x6_1 < (l0_0.length : Int)) = true := decide_eq_true c20
                        clear c20
                        replace H := Option.bind_eq_some_iff.mp H
                        obtain ⟨t496, A210, H⟩ := H
                        replace H : (if t492 > t496 then (spec_l8Choose.l0 kj8 a1 x7_1 x7_1 (wrap64 (x7_1 + 1)) l0_0) else (spec_l8Choose.l0 kj8 a1 x7_1 x6_1 (wrap64 (x7_1 + 1)) l0_0)) = some r := H
                        have A21 := Aside0.mk A210
                        clear A210
                        by_cases c22 : t492 > t496
                        · rw [if_pos c22] at H
                          have c22b0 : decide (t496 < t492) = true := decide_eq_true c22
                          clear c22
                          have H' := Aside0.mk H
                          clear H
                          have hcz23_0 : wc.cell? ⟨gb489, 0, none⟩ = some (.slice (some ad490) l0_0.length c0_0) := (blk_cell BK489.out 0).trans rfl
                          have hfz23_0 := blk_frozen BK489.out 0
                          have p495 : 0 ≤ (x6_1 : Int) := of_decide_eq_true (by first | (with_reducible assumption) | assumption)
                          have q495 : x6_1 < (l0_0.length : Int) := of_decide_eq_true (by first | (with_reducible assumption) | assumption)
                          obtain ⟨ad495, A495_0, c495_0, e495, hx495_0, hl495_0, hi495_0⟩ := at_L1 HR0_0.out x6_1 p495 q495
                          obtain rfl : ad490 = ad495 := (by injection e495)
                          replace hx495_0 := (HB.out.cell (World.block_lt_of_cell? w _ hx495_0)).trans hx495_0
                          have HR495_0 := Aside0.mk hi495_0
                          have HC495_0 := Aside0.mk hl495_0
                          clear hi495_0 hl495_0
                          replace p495 := eq_true p495
                          replace q495 := eq_true q495
                          go_wp2_with (first | (go_at_call 53; (with_reducible refine (spec_l8Earliest.calls kj8 _ _ (rd_L1 l0_0 x6_1) t496 _ ?side1 ?side2 A21.out).mono ?_); (case side1 => repeat (first | exact (Kd.C_below HR495_0.out HB.out) | (with_reducible refine Kd.C_alloc ?_ _) | (with_reducible refine Kd.C_drewN ?_ _) | (with_reducible refine Kd.C_drew ?_))); (case side2 => exact HC495_0.out); rintro e w' ⟨rfl, ⟨nd, rfl⟩⟩))
                          go_roundg kj8
                          case measure => have := HK1.out; have := HJ8.out; omega
                          case rel => exact ⟨(x7_1), (x7_1), (wrap64 (x7_1 + 1)), (by first | rfl | (simp; done) | (simp [*]; done)), (by first | rfl | (simp; done) | (simp [*]; done)), (by first | rfl | (simp; done) | (simp [*]; done)), H', ⟨by have := HK1.out; have := HJ8.out; omega⟩, ⟨by (with_reducible repeat (first | refine blk_drewN ?_ _ | refine blk_drew ?_ | refine blk_alloc ?_ _)); exact BK489.out⟩, ⟨by repeat (first | (with_reducible first | exact HB.out | apply below_alloc | apply pw_below_drewN | apply below_drew1 | refine below_set ?_ GE489.out) | exact HB.out)⟩⟩
                        · rw [if_neg c22] at H
                          have c22b0 : decide (t496 < t492) = false := decide_eq_false c22
                          clear c22
                          have H' := Aside0.mk H
                          clear H
                          have hcz24_0 : wc.cell? ⟨gb489, 0, none⟩ = some (.slice (some ad490) l0_0.length c0_0) := (blk_cell BK489.out 0).trans rfl
                          have hfz24_0 := blk_frozen BK489.out 0
                          have p495 : 0 ≤ (x6_1 : Int) := of_decide_eq_true (by first | (with_reducible assumption) | assumption)
                          have q495 : x6_1 < (l0_0.length : Int) := of_decide_eq_true (by first | (with_reducible assumption) | assumption)
                          obtain ⟨ad495, A495_0, c495_0, e495, hx495_0, hl495_0, hi495_0⟩ := at_L1 HR0_0.out x6_1 p495 q495
                          obtain rfl : ad490 = ad495 := (by injection e495)
                          replace hx495_0 := (HB.out.cell (World.block_lt_of_cell? w _ hx495_0)).trans hx495_0
                          have HR495_0 := Aside0.mk hi495_0
                          have HC495_0 := Aside0.mk hl495_0
                          clear hi495_0 hl495_0
                          replace p495 := eq_true p495
                          replace q495 := eq_true q495
                          go_wp2_with (first | (go_at_call 53; (with_reducible refine (spec_l8Earliest.calls kj8 _ _ (rd_L1 l0_0 x6_1) t496 _ ?side1 ?side2 A21.out).mono ?_); (case side1 => repeat (first | exact (Kd.C_below HR495_0.out HB.out) | (with_reducible refine Kd.C_alloc ?_ _) | (with_reducible refine Kd.C_drewN ?_ _) | (with_reducible refine Kd.C_drew ?_))); (case side2 => exact HC495_0.out); rintro e w' ⟨rfl, ⟨nd, rfl⟩⟩))
                          go_roundg kj8
                          case measure => have := HK1.out; have := HJ8.out; omega
                          case rel => exact ⟨(x7_1), (x6_1), (wrap64 (x7_1 + 1)), (by first | rfl | (simp; done) | (simp [*]; done)), (by first | rfl | (simp; done) | (simp [*]; done)), (by first | rfl | (simp; done) | (simp [*]; done)), H', ⟨by have := HK1.out; have := HJ8.out; omega⟩, ⟨by (with_reducible repeat (first | refine blk_drewN ?_ _ | refine blk_drew ?_ | refine blk_alloc ?_ _)); exact BK489.out⟩, ⟨by repeat (first | (with_reducible first | exact HB.out | apply below_alloc | apply pw_below_drewN | apply below_drew1 | refine below_set ?_ GE489.out) | exact HB.out)⟩⟩
                      · rw [if_neg c20] at H
                        exact absurd H (by simp)
                    · rw [if_neg c19] at H
                      exact absurd H (by simp)
                · replace c17 := Bool.eq_false_iff.mpr c17
                  subst c17
                  have H1 : (if x6_1 < 0 then (spec_l8Choose.l0 kj8 a1 x5_1 x7_1 (wrap64 (x7_1 + 1)) l0_0) else (if 0 ≤ x6_1 then (if x6_1 < (l0_0.length : Int) then ((spec_l8Earliest.f kj8 (rd_L1 l0_0 x6_1)).bind fun t498 => (if t492 > t498 then (spec_l8Choose.l0 kj8 a1 x5_1 x7_1 (wrap64 (x7_1 + 1)) l0_0) else (spec_l8Choose.l0 kj8 a1 x5_1 x6_1 (wrap64 (x7_1 + 1)) l0_0))) else (none)) else (none))) = some r := by rw [if_neg (show ¬ (false = true) by decide)] at H; exact H
                  clear H
                  have H := H1
                  clear H1
                  by_cases c25 : x6_1 < 0
                  · rw [if_pos c25] at H
                    have c25b0 : decide (x6_1 < 0) = true := decide_eq_true c25
                    clear c25
                    have H' := Aside0.mk H
                    clear H
                    go_wp2
                    go_roundg kj8
                    case measure => have := HK1.out; have := HJ8.out; omega
                    case rel => exact ⟨(x5_1), (x7_1), (wrap64 (x7_1 + 1)), (by first | rfl | (simp; done) | (simp [*]; done)), (by first | rfl | (simp; done) | (simp [*]; done)), (by first | rfl | (simp; done) | (simp [*]; done)), H', ⟨by have := HK1.out; have := HJ8.out; omega⟩, ⟨by (with_reducible repeat (first | refine blk_drewN ?_ _ | refine blk_drew ?_ | refine blk_alloc ?_ _)); exact BK489.out⟩, ⟨by repeat (first | (with_reducible first | exact HB.out | apply below_alloc | apply pw_below_drewN | apply below_drew1 | refine below_set ?_ GE489.out) | exact HB.out)⟩⟩
                  · rw [if_neg c25] at H
                    have c25b0 : decide (x6_1 < 0) = false := decide_eq_false c25
                    clear c25
                    by_cases c26 : 0 ≤ x6_1
                    · rw [if_pos c26] at H
                      have c26b0 : decide (0 ≤ x6_1) = true := decide_eq_true c26
                      clear c26
                      by_cases c27 : x6_1 < (l0_0.length : Int)
                      · rw [if_pos c27] at H
                        have c27b0 : decide (x6_1 < (l0_0.length : Int)) = true := decide_eq_true c27
                        clear c27
                        replace H := Option.bind_eq_some_iff.mp H
                        obtain ⟨t498, A280, H⟩ := H
                        replace H : (if t492 > t498 then (spec_l8Choose.l0 kj8 a1 x5_1 x7_1 (wrap64 (x7_1 + 1)) l0_0) else (spec_l8Choose.l0 kj8 a1 x5_1 x6_1 (wrap64 (x7_1 + 1)) l0_0)) = some r := H
                        have A28 := Aside0.mk A280
                        clear A280
                        by_cases c29 : t492 > t498
                        · rw [if_pos c29] at H
                          have c29b0 : decide (t498 < t492) = true := decide_eq_true c29
                          clear c29
                          have H' := Aside0.mk H
                          clear H
                          have hcz30_0 : wc.cell? ⟨gb489, 0, none⟩ = some (.slice (some ad490) l0_0.length c0_0) := (blk_cell BK489.out 0).trans rfl
                          have hfz30_0 := blk_frozen BK489.out 0
                          have p497 : 0 ≤ (x6_1 : Int) := of_decide_eq_true (by first | (with_reducible assumption) | assumption)
                          have q497 : x6_1 < (l0_0.length : Int) := of_decide_eq_true (by first | (with_reducible assumption) | assumption)
                          obtain ⟨ad497, A497_0, c497_0, e497, hx497_0, hl497_0, hi497_0⟩ := at_L1 HR0_0.out x6_1 p497 q497
                          obtain rfl : ad490 = ad497 := (by injection e497)
                          replace hx497_0 := (HB.out.cell (World.block_lt_of_cell? w _ hx497_0)).trans hx497_0
                          have HR497_0 := Aside0.mk hi497_0
                          have HC497_0 := Aside0.mk hl497_0
                          clear hi497_0 hl497_0
                          replace p497 := eq_true p497
                          replace q497 := eq_true q497
                          go_wp2_with (first | (go_at_call 53; (with_reducible refine (spec_l8Earliest.calls kj8 _ _ (rd_L1 l0_0 x6_1) t498 _ ?side1 ?side2 A28.out).mono ?_); (case side1 => repeat (first | exact (Kd.C_below HR497_0.out HB.out) | (with_reducible refine Kd.C_alloc ?_ _) | (with_reducible refine Kd.C_drewN ?_ _) | (with_reducible refine Kd.C_drew ?_))); (case side2 => exact HC497_0.out); rintro e w' ⟨rfl, ⟨nd, rfl⟩⟩))
                          go_roundg kj8
                          case measure => have := HK1.out; have := HJ8.out; omega
                          case rel => exact ⟨(x5_1), (x7_1), (wrap64 (x7_1 + 1)), (by first | rfl | (simp; done) | (simp [*]; done)), (by first | rfl | (simp; done) | (simp [*]; done)), (by first | rfl | (simp; done) | (simp [*]; done)), H', ⟨by have := HK1.out; have := HJ8.out; omega⟩, ⟨by (with_reducible repeat (first | refine blk_drewN ?_ _ | refine blk_drew ?_ | refine blk_alloc ?_ _)); exact BK489.out⟩, ⟨by repeat (first | (with_reducible first | exact HB.out | apply below_alloc | apply pw_below_drewN | apply below_drew1 | refine below_set ?_ GE489.out) | exact HB.out)⟩⟩
                        · rw [if_neg c29] at H
                          have c29b0 : decide (t498 < t492) = false := decide_eq_false c29
                          clear c29
                          have H' := Aside0.mk H
                          clear H
                          have hcz31_0 : wc.cell? ⟨gb489, 0, none⟩ = some (.slice (some ad490) l0_0.length c0_0) := (blk_cell BK489.out 0).trans rfl
                          have hfz31_0 := blk_frozen BK489.out 0
                          have p497 : 0 ≤ (x6_1 : Int) := of_decide_eq_true (by first | (with_reducible assumption) | assumption)
                          have q497 : x6_1 < (l0_0.length : Int) := of_decide_eq_true (by first | (with_reducible assumption) | assumption)
                          obtain ⟨ad497, A497_0, c497_0, e497, hx497_0, hl497_0, hi497_0⟩ := at_L1 HR0_0.out x6_1 p497 q497
                          obtain rfl : ad490 = ad497 := (by injection e497)
                          replace hx497_0 := (HB.out.cell (World.block_lt_of_cell? w _ hx497_0)).trans hx497_0
                          have HR497_0 := Aside0.mk hi497_0
                          have HC497_0 := Aside0.mk hl497_0
                          clear hi497_0 hl497_0
                          replace p497 := eq_true p497
                          replace q497 := eq_true q497
                          go_wp2_with (first | (go_at_call 53; (with_reducible refine (spec_l8Earliest.calls kj8 _ _ (rd_L1 l0_0 x6_1) t498 _ ?side1 ?side2 A28.out).mono ?_); (case side1 => repeat (first | exact (Kd.C_below HR497_0.out HB.out) | (with_reducible refine Kd.C_alloc ?_ _) | (with_reducible refine Kd.C_drewN ?_ _) | (with_reducible refine Kd.C_drew ?_))); (case side2 => exact HC497_0.out); rintro e w' ⟨rfl, ⟨nd, rfl⟩⟩))
                          go_roundg kj8
                          case measure => have := HK1.out; have := HJ8.out; omega
                          case rel => exact ⟨(x5_1), (x6_1), (wrap64 (x7_1 + 1)), (by first | rfl | (simp; done) | (simp [*]; done)), (by first | rfl | (simp; done) | (simp [*]; done)), (by first | rfl | (simp; done) | (simp [*]; done)), H', ⟨by have := HK1.out; have := HJ8.out; omega⟩, ⟨by (with_reducible repeat (first | refine blk_drewN ?_ _ | refine blk_drew ?_ | refine blk_alloc ?_ _)); exact BK489.out⟩, ⟨by repeat (first | (with_reducible first | exact HB.out | apply below_alloc | apply pw_below_drewN | apply below_drew1 | refine below_set ?_ GE489.out) | exact HB.out)⟩⟩
                      · rw [if_neg c27] at H
                        exact absurd H (by simp)
                    · rw [if_neg c26] at H
                      exact absurd H (by simp)
        · rw [if_neg c5] at H
          exact absurd H (by simp)
      · rw [if_neg c4] at H
        have c4b0 : decide (x7_1 < (l0_0.length : Int)) = false := decide_eq_false c4
        clear c4
        by_cases c32 : x5_1 ≥ 0
        · rw [if_pos c32] at H
          have c32b0 : decide (0 ≤ x5_1) = true := decide_eq_true c32
          clear c32
          obtain rfl := Option.some.inj H
          have hcz33_0 : wr.cell? ⟨gb489, 0, none⟩ = some (.slice A0_0 l0_0.length c0_0) := (blk_cell BK489.out 0).trans rfl
          have hfz33_0 := blk_frozen BK489.out 0
          go_wp2
          go_ret
          exact ⟨by first | rfl | (simp [errW_none, errW_some] <;> rfl) | (simp [*, errW_none, errW_some] <;> rfl), by repeat (first | (with_reducible first | exact HB.out | apply below_alloc | apply pw_below_drewN | apply below_drew1 | refine below_set ?_ GE489.out) | exact HB.out)⟩
        · rw [if_neg c32] at H
          have c32b0 : decide (0 ≤ x5_1) = false := decide_eq_false c32
          clear c32
          obtain rfl := Option.some.inj H
          have hcz34_0 : wr.cell? ⟨gb489, 0, none⟩ = some (.slice A0_0 l0_0.length c0_0) := (blk_cell BK489.out 0).trans rfl
          have hfz34_0 := blk_frozen BK489.out 0
          go_wp2
          go_ret
          exact ⟨by first | rfl | (simp [errW_none, errW_some] <;> rfl) | (simp [*, errW_none, errW_some] <;> rfl), by repeat (first | (with_reducible first | exact HB.out | apply below_alloc | apply pw_below_drewN | apply below_drew1 | refine below_set ?_ GE489.out) | exact HB.out)⟩

end Go.Proofs.Ytchjkaondonldaa.P
