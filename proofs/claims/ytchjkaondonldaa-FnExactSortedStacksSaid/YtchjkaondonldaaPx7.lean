-- Written by a program of this session over the translation (a variant of the printer, see wip/gen); Lean checks it.
import Derived.Test.YtchjkaondonldaaPx0
import Derived.Test.YtchjkaondonldaaPx6
namespace Go.Proofs.Ytchjkaondonldaa.P
open Go.RowKit Go.Proofs.YtchjkaondonldaaW.PrintWords Go.Proofs.YtchjkaondonldaaW.PrintLast Go.Proofs.YtchjkaondonldaaW.PrintMore
attribute [local go_sem] Go.Proofs.Ytchjkaondonldaa.V.isSome_setCell max2_int min2_int max_two min_two max_three min_three max_four min_four   -- for this text's walks alone
set_option linter.unusedVariables false
set_option linter.unusedSimpArgs false

/-! ### impl_WorstBox: function 16 -/
mutual
def impl_WorstBox.l0 : Nat → Int → Int → List (List Int) → Int → Int → Option (Int × Int × Bool)
 | 0, _, _, _, _, _ => none
 | k + 1, x5, x6, x18, x19, x20 => if x20 < x19 then (if 0 ≤ x20 then (if x20 < (x18.length : Int) then (impl_WorstBox.l1 k x5 x6 (rd_L1 x18 x20) x18 x19 x20 (rd_L1 x18 x20) ((rd_L1 x18 x20).length : Int) 0) else (none)) else (none)) else (some (x5, x6, decide (x6 > 0)))
def impl_WorstBox.l1 : Nat → Int → Int → List Int → List (List Int) → Int → Int → List Int → Int → Int → Option (Int × Int × Bool)
 | 0, _, _, _, _, _, _, _, _, _ => none
 | k + 1, x5, x6, x8, x18, x19, x20, x24, x25, x26 => if x26 < x25 then (if 0 ≤ x26 then (if x26 < (x24.length : Int) then (if x26 ≤ (x8.length : Int) then (impl_WorstBox.l2 k x5 x6 x8 (rd x24 x26) 0 x18 x19 x20 x24 x25 x26 (x8.take (x26 : Int).toNat) ((x8.take (x26 : Int).toNat).length : Int) 0) else (none)) else (none)) else (none)) else (impl_WorstBox.l0 k x5 x6 x18 x19 (wrap64 (x20 + 1)))
def impl_WorstBox.l2 : Nat → Int → Int → List Int → Int → Int → List (List Int) → Int → Int → List Int → Int → Int → List Int → Int → Int → Option (Int × Int × Bool)
 | 0, _, _, _, _, _, _, _, _, _, _, _, _, _, _ => none
 | k + 1, x5, x6, x8, x10, x11, x18, x19, x20, x24, x25, x26, x33, x34, x35 => if x35 < x34 then (if 0 ≤ x35 then (if x35 < (x33.length : Int) then (if (rd x33 x35) < x10 then (impl_WorstBox.l2 k x5 x6 x8 x10 (wrap64 (x11 + 1)) x18 x19 x20 x24 x25 x26 x33 x34 (wrap64 (x35 + 1))) else (impl_WorstBox.l2 k x5 x6 x8 x10 x11 x18 x19 x20 x24 x25 x26 x33 x34 (wrap64 (x35 + 1)))) else (none)) else (none)) else (if x11 > x6 then (impl_WorstBox.l1 k x10 x11 x8 x18 x19 x20 x24 x25 (wrap64 (x26 + 1))) else (if x11 = x6 then (if x11 > 0 then (if x10 < x5 then (impl_WorstBox.l1 k x10 x11 x8 x18 x19 x20 x24 x25 (wrap64 (x26 + 1))) else (impl_WorstBox.l1 k x5 x6 x8 x18 x19 x20 x24 x25 (wrap64 (x26 + 1)))) else (impl_WorstBox.l1 k x5 x6 x8 x18 x19 x20 x24 x25 (wrap64 (x26 + 1)))) else (impl_WorstBox.l1 k x5 x6 x8 x18 x19 x20 x24 x25 (wrap64 (x26 + 1)))))
end
def impl_WorstBox.f (k : Nat) (l0_0 : List (List Int)) : Option (Int × Int × Bool) := (impl_IsValidYard.f l0_0).bind fun t153 => (if t153 = true then (impl_WorstBox.l0 k 0 0 l0_0 (l0_0.length : Int) 0) else (some (0, 0, false)))
theorem impl_WorstBox.mono_l : ∀ k, (∀ y0 y1 y2 y3 y4, LeO (impl_WorstBox.l0 k y0 y1 y2 y3 y4) (impl_WorstBox.l0 (k + 1) y0 y1 y2 y3 y4)) ∧ (∀ y0 y1 y2 y3 y4 y5 y6 y7 y8, LeO (impl_WorstBox.l1 k y0 y1 y2 y3 y4 y5 y6 y7 y8) (impl_WorstBox.l1 (k + 1) y0 y1 y2 y3 y4 y5 y6 y7 y8)) ∧ (∀ y0 y1 y2 y3 y4 y5 y6 y7 y8 y9 y10 y11 y12 y13, LeO (impl_WorstBox.l2 k y0 y1 y2 y3 y4 y5 y6 y7 y8 y9 y10 y11 y12 y13) (impl_WorstBox.l2 (k + 1) y0 y1 y2 y3 y4 y5 y6 y7 y8 y9 y10 y11 y12 y13))
 | 0 => ⟨fun _ _ _ _ _ r h => by simp [impl_WorstBox.l0] at h, fun _ _ _ _ _ _ _ _ _ r h => by simp [impl_WorstBox.l1] at h, fun _ _ _ _ _ _ _ _ _ _ _ _ _ _ r h => by simp [impl_WorstBox.l2] at h⟩
 | k + 1 => by
  obtain ⟨ih0, ih1, ih2⟩ := impl_WorstBox.mono_l k
  refine ⟨?_, ?_, ?_⟩
  ·intro y0 y1 y2 y3 y4
   unfold impl_WorstBox.l0
   repeat' first
   | (with_reducible exact ih0 _ _ _ _ _)
   | (with_reducible exact ih1 _ _ _ _ _ _ _ _ _)
   | (with_reducible exact ih2 _ _ _ _ _ _ _ _ _ _ _ _ _ _)
   | (with_reducible exact LeO.refl _)
   | (with_reducible exact LeO.none _)
   | (with_reducible refine LeO.ite ?_ ?_)
   | (with_reducible refine LeO.bind ?_ (fun _ => ?_))
   | exact ih0 _ _ _ _ _
   | exact ih1 _ _ _ _ _ _ _ _ _
   | exact ih2 _ _ _ _ _ _ _ _ _ _ _ _ _ _
   | exact LeO.none _
   | refine LeO.ite ?_ ?_
   | refine LeO.bind ?_ (fun _ => ?_)
  ·intro y0 y1 y2 y3 y4 y5 y6 y7 y8
   unfold impl_WorstBox.l1
   repeat' first
   | (with_reducible exact ih0 _ _ _ _ _)
   | (with_reducible exact ih1 _ _ _ _ _ _ _ _ _)
   | (with_reducible exact ih2 _ _ _ _ _ _ _ _ _ _ _ _ _ _)
   | (with_reducible exact LeO.refl _)
   | (with_reducible exact LeO.none _)
   | (with_reducible refine LeO.ite ?_ ?_)
   | (with_reducible refine LeO.bind ?_ (fun _ => ?_))
   | exact ih0 _ _ _ _ _
   | exact ih1 _ _ _ _ _ _ _ _ _
   | exact ih2 _ _ _ _ _ _ _ _ _ _ _ _ _ _
   | exact LeO.none _
   | refine LeO.ite ?_ ?_
   | refine LeO.bind ?_ (fun _ => ?_)
  ·intro y0 y1 y2 y3 y4 y5 y6 y7 y8 y9 y10 y11 y12 y13
   unfold impl_WorstBox.l2
   repeat' first
   | (with_reducible exact ih0 _ _ _ _ _)
   | (with_reducible exact ih1 _ _ _ _ _ _ _ _ _)
   | (with_reducible exact ih2 _ _ _ _ _ _ _ _ _ _ _ _ _ _)
   | (with_reducible exact LeO.refl _)
   | (with_reducible exact LeO.none _)
   | (with_reducible refine LeO.ite ?_ ?_)
   | (with_reducible refine LeO.bind ?_ (fun _ => ?_))
   | exact ih0 _ _ _ _ _
   | exact ih1 _ _ _ _ _ _ _ _ _
   | exact ih2 _ _ _ _ _ _ _ _ _ _ _ _ _ _
   | exact LeO.none _
   | refine LeO.ite ?_ ?_
   | refine LeO.bind ?_ (fun _ => ?_)
theorem impl_WorstBox.mono : ∀ a0 k, LeO (impl_WorstBox.f k a0) (impl_WorstBox.f (k + 1) a0) := by
 intro a0 k
 obtain ⟨ih0, ih1, ih2⟩ := impl_WorstBox.mono_l k
 unfold impl_WorstBox.f
 repeat' first
   | (with_reducible exact ih0 _ _ _ _ _)
   | (with_reducible exact ih1 _ _ _ _ _ _ _ _ _)
   | (with_reducible exact ih2 _ _ _ _ _ _ _ _ _ _ _ _ _ _)
   | (with_reducible exact LeO.refl _)
   | (with_reducible exact LeO.none _)
   | (with_reducible refine LeO.ite ?_ ?_)
   | (with_reducible refine LeO.bind ?_ (fun _ => ?_))
   | exact ih0 _ _ _ _ _
   | exact ih1 _ _ _ _ _ _ _ _ _
   | exact ih2 _ _ _ _ _ _ _ _ _ _ _ _ _ _
   | exact LeO.none _
   | refine LeO.ite ?_ ?_
   | refine LeO.bind ?_ (fun _ => ?_)
set_option maxHeartbeats 8000000 in
set_option maxRecDepth 100000 in
theorem impl_WorstBox.calls (k : Nat) (A0_0 : Option Addr) (c0_0 : Nat) (l0_0 : List (List Int)) (r1 : Int) (r2 : Int) (r3 : Bool) (w : World) (hr0_0 : Kd.C (Kd.slice 3 (Kd.int .i64)) w A0_0 l0_0.length l0_0) (hc0_0 : l0_0.length ≤ c0_0) (h : impl_WorstBox.f k l0_0 = some (r1, r2, r3)) :
  Calls Try.prog 16 #[.agg #[.slice A0_0 l0_0.length c0_0]] w fun e w' => e = .returned (.tuple #[.int .i64 r1, .int .i64 r2, .bool r3]) ∧ Below w.heap.size w w' := by
 have hu28 := Try.underlying28
 have HR0_0 := Aside0.mk hr0_0
 have HC0_0 := Aside0.mk hc0_0
 clear hr0_0 hc0_0
 have HB := Aside0.mk (Below.refl w.heap.size w)
 have H : ((impl_IsValidYard.f l0_0).bind fun t153 => (if t153 = true then (impl_WorstBox.l0 k 0 0 l0_0 (l0_0.length : Int) 0) else (some (0, 0, false)))) = some (r1, r2, r3) := h
 clear h
 replace H := Option.bind_eq_some_iff.mp H
 obtain ⟨t153, A20, H⟩ := H
 replace H : (if t153 = true then (impl_WorstBox.l0 k 0 0 l0_0 (l0_0.length : Int) 0) else (some (0, 0, false))) = some (r1, r2, r3) := H
 have A2 := Aside0.mk A20
 clear A20
 by_cases c3 : t153 = true
 ·subst c3
  have H1 : (impl_WorstBox.l0 k 0 0 l0_0 (l0_0.length : Int) 0) = some (r1, r2, r3) := by rw [if_pos rfl] at H; exact H
  clear H
  have H := H1
  clear H1
  have H' := Aside0.mk H
  clear H
  go_enter Try.func16, Try.ntmps16
  go_wp2_with (first | ((with_reducible refine gate_dst (N := 1) rfl ?_); refine box_event ?hg (N := 1) ?hd (cs := #[.slice A0_0 l0_0.length c0_0]) (t := 28) ?hr ?_; (case hd => rfl); (case hg => rfl); (case hr => first | (go_simp; done) | (go_simp; rfl)); intro gb152 hg w4 hbox hb; have n0_ := Aside0.mk (below_step (bel HB) hb); have n1_ := Aside0.mk (hbox); have n2_ := Aside0.mk ((by rw [hg]; exact (below_size (bel HB)) : w.heap.size ≤ gb152)); have n3_ := Aside0.mk ((by rw [hg]; exact (below_size (bel HB)) : w.heap.size ≤ gb152)); clear HB; have HB := n0_; have BK152 := n1_; have GW152 := n2_; have GE152 := n3_; clear n0_ n1_ n2_ n3_; clear hb hbox hg; have hcz5_0 : w4.cell? ⟨gb152, 0, none⟩ = some (.slice A0_0 l0_0.length c0_0) := (blk_cell BK152.out 0).trans rfl; have hfz5_0 := blk_frozen BK152.out 0) | ((with_reducible refine gate_callee (f := 50) rfl ?_); refine goesL_ (some 15) rfl rfl Try.func50 (by kernel_rfl) rfl #[.agg #[.slice A0_0 l0_0.length c0_0]] rfl gmp ?_; (with_reducible refine (impl_IsValidYard.calls _ _ l0_0 true _ ?side1 ?side2 A2.out).mono ?_); (case side1 => exact cdl (Kd.C_below HR0_0.out HB.out)); (case side2 => exact HC0_0.out); rintro e w6 ⟨rfl, hb⟩; refine ⟨_, rfl, ?_⟩; have n0_ := Aside0.mk (blk_below (g := gb152) (o := .cells #[.slice A0_0 l0_0.length c0_0] 28 (0, 0)) (bkl BK152) hb); have n1_ := Aside0.mk (below_step (bel1 HB GE152) hb); clear BK152; clear HB; have BK152 := n0_; have HB := n1_; clear n0_ n1_; (try clear hb); (try clear hb2); (try clear hk); (try clear hi); have hcz7_0 : w6.cell? ⟨gb152, 0, none⟩ = some (.slice A0_0 l0_0.length c0_0) := (blk_cell BK152.out 0).trans rfl; have hfz7_0 := blk_frozen BK152.out 0))
  go_loopg [5, 6, 20] k (fun kq v5 v6 v20 w' => ∃ (x5_1 : Int) (x6_1 : Int) (x20_1 : Int), v5 = .int .i64 x5_1 ∧ v6 = .int .i64 x6_1 ∧ v20 = .int .i64 x20_1 ∧ Aside0 (impl_WorstBox.l0 kq x5_1 x6_1 l0_0 (l0_0.length : Int) x20_1 = some (r1, r2, r3)) ∧ Aside0 (kq ≤ k) ∧ Aside0 (w'.heap[gb152]? = some (.cells #[(.slice A0_0 l0_0.length c0_0)] 28 (0, 0))) ∧ Aside0 (Below w.heap.size w w'))
  case atStart => exact ⟨(0), (0), (0), (by first | rfl | (simp; done) | (simp [*]; done)), (by first | rfl | (simp; done) | (simp [*]; done)), (by first | rfl | (simp; done) | (simp [*]; done)), H', ⟨Nat.le_refl _⟩, ⟨bkl BK152⟩, ⟨bel1 HB GE152⟩⟩
  case round =>
   clear H'
   try clear c1
   try clear p2
   try clear c3
   try clear c5
   try clear hcz5_0
   try clear hcz7_0
   try clear hfz5_0
   try clear hfz7_0
   obtain ⟨x5_1, x6_1, x20_1, rfl, rfl, rfl, HA, HK1, BK152, HB⟩ := hrel
   cases gk with
   | zero => exact absurd HA.out (by simp [impl_WorstBox.l0])
   | succ k1 =>
    have H := HA.out
    clear HA
    simp only [impl_WorstBox.l0] at H
    by_cases c8 : x20_1 < (l0_0.length : Int)
    ·rw [if_pos c8] at H
     have c8b0 : decide (x20_1 < (l0_0.length : Int)) = true := decide_eq_true c8
     clear c8
     by_cases c9 : 0 ≤ x20_1
     ·rw [if_pos c9] at H
      have c9b0 : decide (0 ≤ x20_1) = true := decide_eq_true c9
      clear c9
      by_cases c10 : x20_1 < (l0_0.length : Int)
      ·rw [if_pos c10] at H
       have c10b0 : decide (x20_1 < (l0_0.length : Int)) = true := decide_eq_true c10
       clear c10
       have H' := Aside0.mk H
       clear H
       have p154 : 0 ≤ (x20_1 : Int) := oda
       have q154 : x20_1 < (l0_0.length : Int) := oda
       obtain ⟨ad154, A154_0, c154_0, e154, hx154_0, hl154_0, hi154_0⟩ := at_L1 HR0_0.out x20_1 p154 q154
       cases e154
       replace hx154_0 := cel HB hx154_0
       have HR154_0 := Aside0.mk hi154_0
       have HC154_0 := Aside0.mk hl154_0
       clear hi154_0 hl154_0
       replace p154 := eq_true p154
       replace q154 := eq_true q154
       go_wp2
       go_loopg [5, 6, 26] k1 (fun kq v5 v6 v26 w' => ∃ (x5_2 : Int) (x6_2 : Int) (x26_2 : Int), v5 = .int .i64 x5_2 ∧ v6 = .int .i64 x6_2 ∧ v26 = .int .i64 x26_2 ∧ Aside0 (impl_WorstBox.l1 kq x5_2 x6_2 (rd_L1 l0_0 x20_1) l0_0 (l0_0.length : Int) x20_1 (rd_L1 l0_0 x20_1) ((rd_L1 l0_0 x20_1).length : Int) x26_2 = some (r1, r2, r3)) ∧ Aside0 (kq ≤ k1) ∧ Aside0 (w'.heap[gb152]? = some (.cells #[(.slice (some ad154) l0_0.length c0_0)] 28 (0, 0))) ∧ Aside0 (Below w.heap.size w w'))
       case atStart => exact ⟨(x5_1), (x6_1), (0), (by first | rfl | (simp; done) | (simp [*]; done)), (by first | rfl | (simp; done) | (simp [*]; done)), (by first | rfl | (simp; done) | (simp [*]; done)), H', ⟨Nat.le_refl _⟩, ⟨bkl BK152⟩, ⟨bel1 HB GE152⟩⟩
       case round =>
        clear H'
        try clear c1
        try clear p1
        try clear q1
        try clear hx1
        try clear p2
        try clear c3
        try clear c5
        try clear c8
        try clear c8b0
        try clear c9
        try clear c9b0
        try clear c10
        try clear c10b0
        try clear hcz5_0
        try clear hcz7_0
        try clear hfz5_0
        try clear hfz7_0
        try clear hx154_0
        try clear p154
        try clear p2
        try clear q154
        obtain ⟨x5_2, x6_2, x26_2, rfl, rfl, rfl, HA, HK2, BK152, HB⟩ := hrel
        cases gk with
        | zero => exact absurd HA.out (by simp [impl_WorstBox.l1])
        | succ k2 =>
         have H := HA.out
         clear HA
         simp only [impl_WorstBox.l1] at H
         by_cases c11 : x26_2 < ((rd_L1 l0_0 x20_1).length : Int)
         ·rw [if_pos c11] at H
          have c11b0 : decide (x26_2 < ((rd_L1 l0_0 x20_1).length : Int)) = true := decide_eq_true c11
          clear c11
          by_cases c12 : 0 ≤ x26_2
          ·rw [if_pos c12] at H
           have c12b0 : decide (0 ≤ x26_2) = true := decide_eq_true c12
           clear c12
           by_cases c13 : x26_2 < ((rd_L1 l0_0 x20_1).length : Int)
           ·rw [if_pos c13] at H
            have c13b0 : decide (x26_2 < ((rd_L1 l0_0 x20_1).length : Int)) = true := decide_eq_true c13
            clear c13
            have c14b0 := eq_true (oda : 0 ≤ x26_2)
            by_cases c15 : x26_2 ≤ ((rd_L1 l0_0 x20_1).length : Int)
            ·rw [if_pos c15] at H
             have c15b0 := eq_true c15
             have c15b1 : decide (x26_2 ≤ ((rd_L1 l0_0 x20_1).length : Int)) = true := decide_eq_true c15
             have HQ_x26_2 := Aside0.mk (of_decide_eq_true c15b1)
             clear c15
             have H' := Aside0.mk H
             clear H
             have p155 : 0 ≤ (x26_2 : Int) := oda
             have q155 : x26_2 < ((rd_L1 l0_0 x20_1).length : Int) := oda
             obtain ⟨ad155, e155, hx155_0⟩ := Kd.at_int HR154_0.out x26_2 p155 q155
             cases e155
             replace hx155_0 := cel HB hx155_0
             replace p155 := eq_true p155
             replace q155 := eq_true q155
             obtain ⟨i016, hi016, _, hsz16, _⟩ := info_parts info3
             obtain ⟨hcut16, hA16, hC16⟩ := print_take_of (P := Try.prog) (Value.int .i64) 0 35 3 .i64 Try.underlying35 hi016 hsz16 (some ad155) c154_0 (rd_L1 l0_0 x20_1) x26_2 (oda) (oda) HC154_0.out
             have HR156 := Aside0.mk (Kd.C_of_reads (h1 := fun _ => rfl) (hA16 _ (Kd.reads_of_C HR154_0.out)))
             have HC156 := Aside0.mk hC16
             clear hA16 hC16 hi016 hsz16
             go_wp2
             go_loopg [11, 35] k2 (fun kq v11 v35 w' => ∃ (x11_3 : Int) (x35_3 : Int), v11 = .int .i64 x11_3 ∧ v35 = .int .i64 x35_3 ∧ Aside0 (impl_WorstBox.l2 kq x5_2 x6_2 (rd_L1 l0_0 x20_1) (rd (rd_L1 l0_0 x20_1) x26_2) x11_3 l0_0 (l0_0.length : Int) x20_1 (rd_L1 l0_0 x20_1) ((rd_L1 l0_0 x20_1).length : Int) x26_2 ((rd_L1 l0_0 x20_1).take (x26_2 : Int).toNat) (((rd_L1 l0_0 x20_1).take (x26_2 : Int).toNat).length : Int) x35_3 = some (r1, r2, r3)) ∧ Aside0 (kq ≤ k2) ∧ Aside0 (w'.heap[gb152]? = some (.cells #[(.slice (some ad154) l0_0.length c0_0)] 28 (0, 0))) ∧ Aside0 (Below w.heap.size w w'))
             case atStart => exact ⟨(0), (0), (by first | rfl | (simp; done) | (simp [*]; done)), (by first | rfl | (simp; done) | (simp [*]; done)), H', ⟨Nat.le_refl _⟩, ⟨bkl BK152⟩, ⟨bel1 HB GE152⟩⟩
             case round =>
              clear H'
              try clear c1
              try clear p1
              try clear q1
              try clear hx1
              try clear p2
              try clear c3
              try clear c5
              try clear c8
              try clear c8b0
              try clear c9
              try clear c9b0
              try clear c10
              try clear c10b0
              try clear c11
              try clear c11b0
              try clear c12
              try clear c12b0
              try clear c13
              try clear c13b0
              try clear c14
              try clear c14b0
              try clear c15
              try clear c15b0
              try clear c15b1
              try clear p15
              try clear q15
              try clear hx15
              try clear c16
              try clear hcz5_0
              try clear hcz7_0
              try clear hfz5_0
              try clear hfz7_0
              try clear hx154_0
              try clear hx155_0
              try clear p1
              try clear p154
              try clear p155
              try clear p2
              try clear q1
              try clear q154
              try clear q155
              obtain ⟨x11_3, x35_3, rfl, rfl, HA, HK3, BK152, HB⟩ := hrel
              cases gk with
              | zero => exact absurd HA.out (by simp [impl_WorstBox.l2])
              | succ k3 =>
               have H := HA.out
               clear HA
               simp only [impl_WorstBox.l2] at H
               by_cases c17 : x35_3 < (((rd_L1 l0_0 x20_1).take (x26_2 : Int).toNat).length : Int)
               ·rw [if_pos c17] at H
                have c17b0 : decide (x35_3 < (((rd_L1 l0_0 x20_1).take (x26_2 : Int).toNat).length : Int)) = true := decide_eq_true c17
                have c17b8 : decide (x35_3 < max x26_2 0) = true := by have h_ := c17b0; have hq_ := HQ_x26_2.out; rw [← h_]; refine decide_eq_decide.2 ?_; simp only [decide_eq_true_eq, decide_eq_false_iff_not, List.length_take] at *; omega
                have c17b9 : (x35_3 < max x26_2 0) = True := eq_true (of_decide_eq_true c17b8)
                clear c17
                by_cases c18 : 0 ≤ x35_3
                ·rw [if_pos c18] at H
                 have c18b0 : decide (0 ≤ x35_3) = true := decide_eq_true c18
                 clear c18
                 by_cases c19 : x35_3 < (((rd_L1 l0_0 x20_1).take (x26_2 : Int).toNat).length : Int)
                 ·rw [if_pos c19] at H
                  have c19b0 : decide (x35_3 < (((rd_L1 l0_0 x20_1).take (x26_2 : Int).toNat).length : Int)) = true := decide_eq_true c19
                  have c19b8 : decide (x35_3 < max x26_2 0) = true := by have h_ := c19b0; have hq_ := HQ_x26_2.out; rw [← h_]; refine decide_eq_decide.2 ?_; simp only [decide_eq_true_eq, decide_eq_false_iff_not, List.length_take] at *; omega
                  have c19b9 : (x35_3 < max x26_2 0) = True := eq_true (of_decide_eq_true c19b8)
                  clear c19
                  by_cases c20 : (rd ((rd_L1 l0_0 x20_1).take (x26_2 : Int).toNat) x35_3) < (rd (rd_L1 l0_0 x20_1) x26_2)
                  ·rw [if_pos c20] at H
                   have c20b0 : decide ((rd ((rd_L1 l0_0 x20_1).take (x26_2 : Int).toNat) x35_3) < (rd (rd_L1 l0_0 x20_1) x26_2)) = true := decide_eq_true c20
                   clear c20
                   have H' := Aside0.mk H
                   clear H
                   have p157 : 0 ≤ (x35_3 : Int) := oda
                   have q157 : x35_3 < (((rd_L1 l0_0 x20_1).take (x26_2 : Int).toNat).length : Int) := oda
                   obtain ⟨ad157, e157, hx157_0⟩ := Kd.at_int HR156.out x35_3 p157 q157
                   obtain rfl : ad155 = ad157 := (by injection e157)
                   replace hx157_0 := cel HB hx157_0
                   replace p157 := eq_true p157
                   replace q157 := eq_true q157
                   go_wp2
                   go_roundg k3
                   case measure => have := HK1.out; have := HK2.out; have := HK3.out; omega
                   case rel => exact ⟨(wrap64 (x11_3 + 1)), (wrap64 (x35_3 + 1)), (by first | rfl | (simp; done) | (simp [*]; done)), (by first | rfl | (simp; done) | (simp [*]; done)), H', ⟨by have := HK1.out; have := HK2.out; have := HK3.out; omega⟩, ⟨bkl BK152⟩, ⟨bel1 HB GE152⟩⟩
                  ·rw [if_neg c20] at H
                   have c20b0 : decide ((rd ((rd_L1 l0_0 x20_1).take (x26_2 : Int).toNat) x35_3) < (rd (rd_L1 l0_0 x20_1) x26_2)) = false := decide_eq_false c20
                   clear c20
                   have H' := Aside0.mk H
                   clear H
                   have p157 : 0 ≤ (x35_3 : Int) := oda
                   have q157 : x35_3 < (((rd_L1 l0_0 x20_1).take (x26_2 : Int).toNat).length : Int) := oda
                   obtain ⟨ad157, e157, hx157_0⟩ := Kd.at_int HR156.out x35_3 p157 q157
                   obtain rfl : ad155 = ad157 := (by injection e157)
                   replace hx157_0 := cel HB hx157_0
                   replace p157 := eq_true p157
                   replace q157 := eq_true q157
                   go_wp2
                   go_roundg k3
                   case measure => have := HK1.out; have := HK2.out; have := HK3.out; omega
                   case rel => exact ⟨(x11_3), (wrap64 (x35_3 + 1)), (by first | rfl | (simp; done) | (simp [*]; done)), (by first | rfl | (simp; done) | (simp [*]; done)), H', ⟨by have := HK1.out; have := HK2.out; have := HK3.out; omega⟩, ⟨bkl BK152⟩, ⟨bel1 HB GE152⟩⟩
                 ·rw [if_neg c19] at H
                  exact absurd H (by simp)
                ·rw [if_neg c18] at H
                 exact absurd H (by simp)
               ·rw [if_neg c17] at H
                have c17b0 : decide (x35_3 < (((rd_L1 l0_0 x20_1).take (x26_2 : Int).toNat).length : Int)) = false := decide_eq_false c17
                have c17b8 : decide (x35_3 < max x26_2 0) = false := by have h_ := c17b0; have hq_ := HQ_x26_2.out; rw [← h_]; refine decide_eq_decide.2 ?_; simp only [decide_eq_true_eq, decide_eq_false_iff_not, List.length_take] at *; omega
                clear c17
                by_cases c21 : x11_3 > x6_2
                ·rw [if_pos c21] at H
                 have c21b0 : decide (x6_2 < x11_3) = true := decide_eq_true c21
                 clear c21
                 have H' := Aside0.mk H
                 clear H
                 go_wp2
                 go_roundg k3
                 case measure => have := HK1.out; have := HK2.out; have := HK3.out; omega
                 case rel => exact ⟨((rd (rd_L1 l0_0 x20_1) x26_2)), (x11_3), (wrap64 (x26_2 + 1)), (by first | rfl | (simp; done) | (simp [*]; done)), (by first | rfl | (simp; done) | (simp [*]; done)), (by first | rfl | (simp; done) | (simp [*]; done)), H', ⟨by have := HK1.out; have := HK2.out; have := HK3.out; omega⟩, ⟨bkl BK152⟩, ⟨bel1 HB GE152⟩⟩
                ·rw [if_neg c21] at H
                 have c21b0 : decide (x6_2 < x11_3) = false := decide_eq_false c21
                 clear c21
                 by_cases c22 : x11_3 = x6_2
                 ·rw [if_pos c22] at H
                  have c22b0 : (x11_3 == x6_2) = true := beq_iff_eq.mpr c22
                  have c22b1 : (x11_3 != x6_2) = false := bne_eq_false_iff_eq.mpr c22
                  clear c22
                  by_cases c23 : x11_3 > 0
                  ·rw [if_pos c23] at H
                   have c23b0 : decide (0 < x11_3) = true := decide_eq_true c23
                   clear c23
                   by_cases c24 : (rd (rd_L1 l0_0 x20_1) x26_2) < x5_2
                   ·rw [if_pos c24] at H
                    have c24b0 : decide ((rd (rd_L1 l0_0 x20_1) x26_2) < x5_2) = true := decide_eq_true c24
                    clear c24
                    have H' := Aside0.mk H
                    clear H
                    go_wp2
                    go_roundg k3
                    case measure => have := HK1.out; have := HK2.out; have := HK3.out; omega
                    case rel => exact ⟨((rd (rd_L1 l0_0 x20_1) x26_2)), (x11_3), (wrap64 (x26_2 + 1)), (by first | rfl | (simp; done) | (simp [*]; done)), (by first | rfl | (simp; done) | (simp [*]; done)), (by first | rfl | (simp; done) | (simp [*]; done)), H', ⟨by have := HK1.out; have := HK2.out; have := HK3.out; omega⟩, ⟨bkl BK152⟩, ⟨bel1 HB GE152⟩⟩
                   ·rw [if_neg c24] at H
                    have c24b0 : decide ((rd (rd_L1 l0_0 x20_1) x26_2) < x5_2) = false := decide_eq_false c24
                    clear c24
                    have H' := Aside0.mk H
                    clear H
                    go_wp2
                    go_roundg k3
                    case measure => have := HK1.out; have := HK2.out; have := HK3.out; omega
                    case rel => exact ⟨(x5_2), (x6_2), (wrap64 (x26_2 + 1)), (by first | rfl | (simp; done) | (simp [*]; done)), (by first | rfl | (simp; done) | (simp [*]; done)), (by first | rfl | (simp; done) | (simp [*]; done)), H', ⟨by have := HK1.out; have := HK2.out; have := HK3.out; omega⟩, ⟨bkl BK152⟩, ⟨bel1 HB GE152⟩⟩
                  ·rw [if_neg c23] at H
                   have c23b0 : decide (0 < x11_3) = false := decide_eq_false c23
                   clear c23
                   have H' := Aside0.mk H
                   clear H
                   go_wp2
                   go_roundg k3
                   case measure => have := HK1.out; have := HK2.out; have := HK3.out; omega
                   case rel => exact ⟨(x5_2), (x6_2), (wrap64 (x26_2 + 1)), (by first | rfl | (simp; done) | (simp [*]; done)), (by first | rfl | (simp; done) | (simp [*]; done)), (by first | rfl | (simp; done) | (simp [*]; done)), H', ⟨by have := HK1.out; have := HK2.out; have := HK3.out; omega⟩, ⟨bkl BK152⟩, ⟨bel1 HB GE152⟩⟩
                 ·rw [if_neg c22] at H
                  have c22b0 : (x11_3 == x6_2) = false := beq_eq_false_iff_ne.mpr c22
                  have c22b1 : (x11_3 != x6_2) = true := bne_iff_ne.mpr c22
                  have H' := Aside0.mk H
                  clear H
                  go_wp2
                  go_roundg k3
                  case measure => have := HK1.out; have := HK2.out; have := HK3.out; omega
                  case rel => exact ⟨(x5_2), (x6_2), (wrap64 (x26_2 + 1)), (by first | rfl | (simp; done) | (simp [*]; done)), (by first | rfl | (simp; done) | (simp [*]; done)), (by first | rfl | (simp; done) | (simp [*]; done)), H', ⟨by have := HK1.out; have := HK2.out; have := HK3.out; omega⟩, ⟨bkl BK152⟩, ⟨bel1 HB GE152⟩⟩
            ·rw [if_neg c15] at H
             exact absurd H (by simp)
           ·rw [if_neg c13] at H
            exact absurd H (by simp)
          ·rw [if_neg c12] at H
           exact absurd H (by simp)
         ·rw [if_neg c11] at H
          have c11b0 : decide (x26_2 < ((rd_L1 l0_0 x20_1).length : Int)) = false := decide_eq_false c11
          clear c11
          have H' := Aside0.mk H
          clear H
          go_wp2
          go_roundg k2
          case measure => have := HK1.out; have := HK2.out; omega
          case rel => exact ⟨(x5_2), (x6_2), (wrap64 (x20_1 + 1)), (by first | rfl | (simp; done) | (simp [*]; done)), (by first | rfl | (simp; done) | (simp [*]; done)), (by first | rfl | (simp; done) | (simp [*]; done)), H', ⟨by have := HK1.out; have := HK2.out; omega⟩, ⟨bkl BK152⟩, ⟨bel1 HB GE152⟩⟩
      ·rw [if_neg c10] at H
       exact absurd H (by simp)
     ·rw [if_neg c9] at H
      exact absurd H (by simp)
    ·rw [if_neg c8] at H
     have c8b0 : decide (x20_1 < (l0_0.length : Int)) = false := decide_eq_false c8
     clear c8
     simp only [Option.some.injEq, Prod.mk.injEq] at H
     obtain ⟨rfl, rfl, rfl⟩ := H
     go_wp2
     go_ret3
     exact ⟨by first | rfl | (simp [errW_none, errW_some] <;> rfl) | (simp [*, errW_none, errW_some] <;> rfl), bel1 HB GE152⟩
 ·replace c3 := Bool.eq_false_iff.mpr c3
  subst c3
  have H1 : (some (0, 0, false)) = some (r1, r2, r3) := by rw [if_neg (show ¬ (false = true) by decide)] at H; exact H
  clear H
  have H := H1
  clear H1
  simp only [Option.some.injEq, Prod.mk.injEq] at H
  obtain ⟨rfl, rfl, rfl⟩ := H
  go_enter Try.func16, Try.ntmps16
  go_wp2_with (first | ((with_reducible refine gate_dst (N := 1) rfl ?_); refine box_event ?hg (N := 1) ?hd (cs := #[.slice A0_0 l0_0.length c0_0]) (t := 28) ?hr ?_; (case hd => rfl); (case hg => rfl); (case hr => first | (go_simp; done) | (go_simp; rfl)); intro gb152 hg w25 hbox hb; have n0_ := Aside0.mk (below_step (bel HB) hb); have n1_ := Aside0.mk (hbox); have n2_ := Aside0.mk ((by rw [hg]; exact (below_size (bel HB)) : w.heap.size ≤ gb152)); have n3_ := Aside0.mk ((by rw [hg]; exact (below_size (bel HB)) : w.heap.size ≤ gb152)); clear HB; have HB := n0_; have BK152 := n1_; have GW152 := n2_; have GE152 := n3_; clear n0_ n1_ n2_ n3_; clear hb hbox hg; have hcz26_0 : w25.cell? ⟨gb152, 0, none⟩ = some (.slice A0_0 l0_0.length c0_0) := (blk_cell BK152.out 0).trans rfl; have hfz26_0 := blk_frozen BK152.out 0) | ((with_reducible refine gate_callee (f := 50) rfl ?_); refine goesL_ (some 15) rfl rfl Try.func50 (by kernel_rfl) rfl #[.agg #[.slice A0_0 l0_0.length c0_0]] rfl gmp ?_; (with_reducible refine (impl_IsValidYard.calls _ _ l0_0 false _ ?side1 ?side2 A2.out).mono ?_); (case side1 => exact cdl (Kd.C_below HR0_0.out HB.out)); (case side2 => exact HC0_0.out); rintro e w27 ⟨rfl, hb⟩; refine ⟨_, rfl, ?_⟩; have n0_ := Aside0.mk (blk_below (g := gb152) (o := .cells #[.slice A0_0 l0_0.length c0_0] 28 (0, 0)) (bkl BK152) hb); have n1_ := Aside0.mk (below_step (bel1 HB GE152) hb); clear BK152; clear HB; have BK152 := n0_; have HB := n1_; clear n0_ n1_; (try clear hb); (try clear hb2); (try clear hk); (try clear hi)))
  go_ret3
  exact ⟨by first | rfl | (simp [errW_none, errW_some] <;> rfl) | (simp [*, errW_none, errW_some] <;> rfl), bel1 HB GE152⟩

end Go.Proofs.Ytchjkaondonldaa.P
