-- Written by a program of this session over the translation (a variant of the printer, see wip/gen); Lean checks it.
import Derived.Test.YtchjkaondonldaaPx0
import Derived.Test.YtchjkaondonldaaPx2
import Derived.Test.YtchjkaondonldaaPx3
namespace Go.Proofs.Ytchjkaondonldaa.P
open Go.RowKit Go.Proofs.YtchjkaondonldaaW.PrintWords Go.Proofs.YtchjkaondonldaaW.PrintLast Go.Proofs.YtchjkaondonldaaW.PrintMore
attribute [local go_sem] Go.Proofs.Ytchjkaondonldaa.V.isSome_setCell max2_int min2_int max_two min_two max_three min_three max_four min_four   -- for this text's walks alone
set_option linter.unusedVariables false
set_option linter.unusedSimpArgs false

/-! ### spec_WorstBox: function 14 -/
mutual
def spec_WorstBox.l0 : Nat → Int → Int → Int → List (List Int) → Option (Int × Int × Bool)
 | 0, _, _, _, _ => none
 | k + 1, x5, x6, x7, x123000 => if x7 < (x123000.length : Int) then (spec_WorstBox.l1 k x5 x6 x7 0 x123000) else (some (x5, x6, decide (x6 > 0)))
def spec_WorstBox.l1 : Nat → Int → Int → Int → Int → List (List Int) → Option (Int × Int × Bool)
 | 0, _, _, _, _, _ => none
 | k + 1, x5, x6, x7, x8, x123000 => if 0 ≤ x7 then (if x7 < (x123000.length : Int) then (if x8 < ((rd_L1 x123000 x7).length : Int) then ((spec_l8Below.f k (rd_L1 x123000 x7) x8).bind fun t126 => (if t126 > x6 then (if 0 ≤ x8 then (spec_WorstBox.l1 k (rd (rd_L1 x123000 x7) x8) t126 x7 (wrap64 (x8 + 1)) x123000) else (none)) else (if t126 = x6 then (if t126 > 0 then (if 0 ≤ x8 then (if (rd (rd_L1 x123000 x7) x8) < x5 then (spec_WorstBox.l1 k (rd (rd_L1 x123000 x7) x8) t126 x7 (wrap64 (x8 + 1)) x123000) else (spec_WorstBox.l1 k x5 x6 x7 (wrap64 (x8 + 1)) x123000)) else (none)) else (spec_WorstBox.l1 k x5 x6 x7 (wrap64 (x8 + 1)) x123000)) else (spec_WorstBox.l1 k x5 x6 x7 (wrap64 (x8 + 1)) x123000)))) else (spec_WorstBox.l0 k x5 x6 (wrap64 (x7 + 1)) x123000)) else (none)) else (none)
end
def spec_WorstBox.f (k : Nat) (l0_0 : List (List Int)) : Option (Int × Int × Bool) := (spec_l5Good.f k l0_0).bind fun t123 => (if t123 = true then (spec_WorstBox.l0 k 0 0 0 l0_0) else (some (0, 0, false)))
theorem spec_WorstBox.mono_l : ∀ k, (∀ y0 y1 y2 y3, LeO (spec_WorstBox.l0 k y0 y1 y2 y3) (spec_WorstBox.l0 (k + 1) y0 y1 y2 y3)) ∧ (∀ y0 y1 y2 y3 y4, LeO (spec_WorstBox.l1 k y0 y1 y2 y3 y4) (spec_WorstBox.l1 (k + 1) y0 y1 y2 y3 y4))
 | 0 => ⟨fun _ _ _ _ r h => by simp [spec_WorstBox.l0] at h, fun _ _ _ _ _ r h => by simp [spec_WorstBox.l1] at h⟩
 | k + 1 => by
  obtain ⟨ih0, ih1⟩ := spec_WorstBox.mono_l k
  refine ⟨?_, ?_⟩
  ·intro y0 y1 y2 y3
   unfold spec_WorstBox.l0
   repeat' first
   | (with_reducible exact ih0 _ _ _ _)
   | (with_reducible exact ih1 _ _ _ _ _)
   | (with_reducible exact spec_l5Good.mono _ _)
   | (with_reducible exact spec_l8Below.mono _ _ _)
   | (with_reducible exact LeO.refl _)
   | (with_reducible exact LeO.none _)
   | (with_reducible refine LeO.ite ?_ ?_)
   | (with_reducible refine LeO.bind ?_ (fun _ => ?_))
   | exact ih0 _ _ _ _
   | exact ih1 _ _ _ _ _
   | exact spec_l5Good.mono _ _
   | exact spec_l8Below.mono _ _ _
   | exact LeO.none _
   | refine LeO.ite ?_ ?_
   | refine LeO.bind ?_ (fun _ => ?_)
  ·intro y0 y1 y2 y3 y4
   unfold spec_WorstBox.l1
   repeat' first
   | (with_reducible exact ih0 _ _ _ _)
   | (with_reducible exact ih1 _ _ _ _ _)
   | (with_reducible exact spec_l5Good.mono _ _)
   | (with_reducible exact spec_l8Below.mono _ _ _)
   | (with_reducible exact LeO.refl _)
   | (with_reducible exact LeO.none _)
   | (with_reducible refine LeO.ite ?_ ?_)
   | (with_reducible refine LeO.bind ?_ (fun _ => ?_))
   | exact ih0 _ _ _ _
   | exact ih1 _ _ _ _ _
   | exact spec_l5Good.mono _ _
   | exact spec_l8Below.mono _ _ _
   | exact LeO.none _
   | refine LeO.ite ?_ ?_
   | refine LeO.bind ?_ (fun _ => ?_)
theorem spec_WorstBox.mono : ∀ a0 k, LeO (spec_WorstBox.f k a0) (spec_WorstBox.f (k + 1) a0) := by
 intro a0 k
 obtain ⟨ih0, ih1⟩ := spec_WorstBox.mono_l k
 unfold spec_WorstBox.f
 repeat' first
   | (with_reducible exact ih0 _ _ _ _)
   | (with_reducible exact ih1 _ _ _ _ _)
   | (with_reducible exact spec_l5Good.mono _ _)
   | (with_reducible exact spec_l8Below.mono _ _ _)
   | (with_reducible exact LeO.refl _)
   | (with_reducible exact LeO.none _)
   | (with_reducible refine LeO.ite ?_ ?_)
   | (with_reducible refine LeO.bind ?_ (fun _ => ?_))
   | exact ih0 _ _ _ _
   | exact ih1 _ _ _ _ _
   | exact spec_l5Good.mono _ _
   | exact spec_l8Below.mono _ _ _
   | exact LeO.none _
   | refine LeO.ite ?_ ?_
   | refine LeO.bind ?_ (fun _ => ?_)
set_option maxHeartbeats 8000000 in
set_option maxRecDepth 100000 in
theorem spec_WorstBox.calls (k : Nat) (A0_0 : Option Addr) (c0_0 : Nat) (l0_0 : List (List Int)) (r1 : Int) (r2 : Int) (r3 : Bool) (w : World) (hr0_0 : Kd.C (Kd.slice 3 (Kd.int .i64)) w A0_0 l0_0.length l0_0) (hc0_0 : l0_0.length ≤ c0_0) (h : spec_WorstBox.f k l0_0 = some (r1, r2, r3)) :
  Calls Try.prog 14 #[.agg #[.slice A0_0 l0_0.length c0_0]] w fun e w' => e = .returned (.tuple #[.int .i64 r1, .int .i64 r2, .bool r3]) ∧ Below w.heap.size w w' := by
 have hu28 := Try.underlying28
 have HR0_0 := Aside0.mk hr0_0
 have HC0_0 := Aside0.mk hc0_0
 clear hr0_0 hc0_0
 have HB := Aside0.mk (Below.refl w.heap.size w)
 have H : ((spec_l5Good.f k l0_0).bind fun t123 => (if t123 = true then (spec_WorstBox.l0 k 0 0 0 l0_0) else (some (0, 0, false)))) = some (r1, r2, r3) := h
 clear h
 replace H := Option.bind_eq_some_iff.mp H
 obtain ⟨t123, A20, H⟩ := H
 replace H : (if t123 = true then (spec_WorstBox.l0 k 0 0 0 l0_0) else (some (0, 0, false))) = some (r1, r2, r3) := H
 have A2 := Aside0.mk A20
 clear A20
 by_cases c3 : t123 = true
 ·subst c3
  have H1 : (spec_WorstBox.l0 k 0 0 0 l0_0) = some (r1, r2, r3) := by rw [if_pos rfl] at H; exact H
  clear H
  have H := H1
  clear H1
  have H' := Aside0.mk H
  clear H
  go_enter Try.func14, Try.ntmps14
  go_wp2_with (first | ((with_reducible refine gate_dst (N := 1) rfl ?_); refine box_event ?hg (N := 1) ?hd (cs := #[.slice A0_0 l0_0.length c0_0]) (t := 28) ?hr ?_; (case hd => rfl); (case hg => rfl); (case hr => first | (go_simp; done) | (go_simp; rfl)); intro gb122 hg w4 hbox hb; have n0_ := Aside0.mk (below_step (bel HB) hb); have n1_ := Aside0.mk (hbox); have n2_ := Aside0.mk ((by rw [hg]; exact (below_size (bel HB)) : w.heap.size ≤ gb122)); have n3_ := Aside0.mk ((by rw [hg]; exact (below_size (bel HB)) : w.heap.size ≤ gb122)); clear HB; have HB := n0_; have BK122 := n1_; have GW122 := n2_; have GE122 := n3_; clear n0_ n1_ n2_ n3_; clear hb hbox hg; have hcz5_0 : w4.cell? ⟨gb122, 0, none⟩ = some (.slice A0_0 l0_0.length c0_0) := (blk_cell BK122.out 0).trans rfl; have hfz5_0 := blk_frozen BK122.out 0) | ((with_reducible refine gate_callee (f := 47) rfl ?_); refine goesL_ (some 11) rfl rfl Try.func47 (by kernel_rfl) rfl #[.agg #[.slice A0_0 l0_0.length c0_0]] rfl gmp ?_; (with_reducible refine (spec_l5Good.calls k _ _ l0_0 true _ ?side1 ?side2 A2.out).mono ?_); (case side1 => exact cdl (Kd.C_below HR0_0.out HB.out)); (case side2 => exact HC0_0.out); rintro e w6 ⟨rfl, hb⟩; refine ⟨_, rfl, ?_⟩; have n0_ := Aside0.mk (blk_below (g := gb122) (o := .cells #[.slice A0_0 l0_0.length c0_0] 28 (0, 0)) (bkl BK122) hb); have n1_ := Aside0.mk (below_step (bel1 HB GE122) hb); clear BK122; clear HB; have BK122 := n0_; have HB := n1_; clear n0_ n1_; (try clear hb); (try clear hb2); (try clear hk); (try clear hi)))
  go_loopg [5, 6, 7] k (fun kq v5 v6 v7 w' => ∃ (x5_1 : Int) (x6_1 : Int) (x7_1 : Int), v5 = .int .i64 x5_1 ∧ v6 = .int .i64 x6_1 ∧ v7 = .int .i64 x7_1 ∧ Aside0 (spec_WorstBox.l0 kq x5_1 x6_1 x7_1 l0_0 = some (r1, r2, r3)) ∧ Aside0 (kq ≤ k) ∧ Aside0 (w'.heap[gb122]? = some (.cells #[(.slice A0_0 l0_0.length c0_0)] 28 (0, 0))) ∧ Aside0 (Below w.heap.size w w'))
  case atStart => exact ⟨(0), (0), (0), (by first | rfl | (simp; done) | (simp [*]; done)), (by first | rfl | (simp; done) | (simp [*]; done)), (by first | rfl | (simp; done) | (simp [*]; done)), H', ⟨Nat.le_refl _⟩, ⟨bkl BK122⟩, ⟨bel1 HB GE122⟩⟩
  case round =>
   clear H'
   try clear c1
   try clear p2
   try clear c3
   try clear c4
   try clear hcz5_0
   try clear hfz5_0
   obtain ⟨x5_1, x6_1, x7_1, rfl, rfl, rfl, HA, HK1, BK122, HB⟩ := hrel
   cases gk with
   | zero => exact absurd HA.out (by simp [spec_WorstBox.l0])
   | succ k1 =>
    have H := HA.out
    clear HA
    simp only [spec_WorstBox.l0] at H
    by_cases c7 : x7_1 < (l0_0.length : Int)
    ·rw [if_pos c7] at H
     have c7b0 : decide (x7_1 < (l0_0.length : Int)) = true := decide_eq_true c7
     clear c7
     have H' := Aside0.mk H
     clear H
     have hcz8_0 : wr.cell? ⟨gb122, 0, none⟩ = some (.slice A0_0 l0_0.length c0_0) := (blk_cell BK122.out 0).trans rfl
     have hfz8_0 := blk_frozen BK122.out 0
     go_wp2
     go_loopg [5, 6, 8] k1 (fun kq v5 v6 v8 w' => ∃ (x5_2 : Int) (x6_2 : Int) (x8_2 : Int), v5 = .int .i64 x5_2 ∧ v6 = .int .i64 x6_2 ∧ v8 = .int .i64 x8_2 ∧ Aside0 (spec_WorstBox.l1 kq x5_2 x6_2 x7_1 x8_2 l0_0 = some (r1, r2, r3)) ∧ Aside0 (kq ≤ k1) ∧ Aside0 (w'.heap[gb122]? = some (.cells #[(.slice A0_0 l0_0.length c0_0)] 28 (0, 0))) ∧ Aside0 (Below w.heap.size w w'))
     case atStart => exact ⟨(x5_1), (x6_1), (0), (by first | rfl | (simp; done) | (simp [*]; done)), (by first | rfl | (simp; done) | (simp [*]; done)), (by first | rfl | (simp; done) | (simp [*]; done)), H', ⟨Nat.le_refl _⟩, ⟨bkl BK122⟩, ⟨bel1 HB GE122⟩⟩
     case round =>
      clear H'
      try clear c1
      try clear p2
      try clear c3
      try clear c4
      try clear c7
      try clear c7b0
      try clear hcz5_0
      try clear hcz8_0
      try clear hfz5_0
      try clear hfz8_0
      try clear p2
      obtain ⟨x5_2, x6_2, x8_2, rfl, rfl, rfl, HA, HK2, BK122, HB⟩ := hrel
      cases gk with
      | zero => exact absurd HA.out (by simp [spec_WorstBox.l1])
      | succ k2 =>
       have H := HA.out
       clear HA
       simp only [spec_WorstBox.l1] at H
       by_cases c9 : 0 ≤ x7_1
       ·rw [if_pos c9] at H
        have c9b0 : decide (0 ≤ x7_1) = true := decide_eq_true c9
        clear c9
        by_cases c10 : x7_1 < (l0_0.length : Int)
        ·rw [if_pos c10] at H
         have c10b0 : decide (x7_1 < (l0_0.length : Int)) = true := decide_eq_true c10
         clear c10
         by_cases c11 : x8_2 < ((rd_L1 l0_0 x7_1).length : Int)
         ·rw [if_pos c11] at H
          have c11b0 : decide (x8_2 < ((rd_L1 l0_0 x7_1).length : Int)) = true := decide_eq_true c11
          clear c11
          replace H := Option.bind_eq_some_iff.mp H
          obtain ⟨t126, A120, H⟩ := H
          replace H : (if t126 > x6_2 then (if 0 ≤ x8_2 then (spec_WorstBox.l1 k2 (rd (rd_L1 l0_0 x7_1) x8_2) t126 x7_1 (wrap64 (x8_2 + 1)) l0_0) else (none)) else (if t126 = x6_2 then (if t126 > 0 then (if 0 ≤ x8_2 then (if (rd (rd_L1 l0_0 x7_1) x8_2) < x5_2 then (spec_WorstBox.l1 k2 (rd (rd_L1 l0_0 x7_1) x8_2) t126 x7_1 (wrap64 (x8_2 + 1)) l0_0) else (spec_WorstBox.l1 k2 x5_2 x6_2 x7_1 (wrap64 (x8_2 + 1)) l0_0)) else (none)) else (spec_WorstBox.l1 k2 x5_2 x6_2 x7_1 (wrap64 (x8_2 + 1)) l0_0)) else (spec_WorstBox.l1 k2 x5_2 x6_2 x7_1 (wrap64 (x8_2 + 1)) l0_0))) = some (r1, r2, r3) := H
          have A12 := Aside0.mk A120
          clear A120
          by_cases c13 : t126 > x6_2
          ·rw [if_pos c13] at H
           have c13b0 : decide (x6_2 < t126) = true := decide_eq_true c13
           clear c13
           by_cases c14 : 0 ≤ x8_2
           ·rw [if_pos c14] at H
            have c14b0 : decide (0 ≤ x8_2) = true := decide_eq_true c14
            clear c14
            have H' := Aside0.mk H
            clear H
            have hcz15_0 : wr.cell? ⟨gb122, 0, none⟩ = some (.slice A0_0 l0_0.length c0_0) := (blk_cell BK122.out 0).trans rfl
            have hfz15_0 := blk_frozen BK122.out 0
            have p124 : 0 ≤ (x7_1 : Int) := oda
            have q124 : x7_1 < (l0_0.length : Int) := oda
            obtain ⟨ad124, A124_0, c124_0, e124, hx124_0, hl124_0, hi124_0⟩ := at_L1 HR0_0.out x7_1 p124 q124
            cases e124
            replace hx124_0 := cel HB hx124_0
            have HR124_0 := Aside0.mk hi124_0
            have HC124_0 := Aside0.mk hl124_0
            clear hi124_0 hl124_0
            replace p124 := eq_true p124
            replace q124 := eq_true q124
            have p125 : 0 ≤ (x7_1 : Int) := oda
            have q125 : x7_1 < (l0_0.length : Int) := oda
            obtain ⟨ad125, A125_0, c125_0, e125, hx125_0, hl125_0, hi125_0⟩ := at_L1 HR0_0.out x7_1 p125 q125
            obtain rfl : ad124 = ad125 := (by injection e125)
            replace hx125_0 := cel HB hx125_0
            have HR125_0 := Aside0.mk hi125_0
            have HC125_0 := Aside0.mk hl125_0
            clear hi125_0 hl125_0
            replace p125 := eq_true p125
            replace q125 := eq_true q125
            have ea_ := Option.some.inj (hx124_0.symm.trans hx125_0)
            injection ea_ with ea_ en_ ec_
            subst ea_
            subst ec_
            clear en_
            go_wp2_with (first | ((with_reducible refine gate_callee (f := 48) rfl ?_); refine goesL_ (some 36) rfl rfl Try.func48 (by kernel_rfl) rfl #[.slice A124_0 (rd_L1 l0_0 x7_1).length c124_0, .int .i64 x8_2] rfl gmp ?_; (with_reducible refine (spec_l8Below.calls k2 _ _ (rd_L1 l0_0 x7_1) x8_2 t126 _ ?side1 ?side2 A12.out).mono ?_); (case side1 => exact cdl (Kd.C_below HR125_0.out HB.out)); (case side2 => exact HC125_0.out); rintro e w' ⟨rfl, ⟨nd, rfl⟩⟩; refine ⟨_, rfl, ?_⟩; have p127 : 0 ≤ (x7_1 : Int) := oda; have q127 : x7_1 < (l0_0.length : Int) := oda; obtain ⟨ad127, A127_0, c127_0, e127, hx127_0, hl127_0, hi127_0⟩ := at_L1 HR0_0.out x7_1 p127 q127; obtain rfl : ad124 = ad127 := (by injection e127); replace hx127_0 := cel HB hx127_0; have HR127_0 := Aside0.mk hi127_0; have HC127_0 := Aside0.mk hl127_0; clear hi127_0 hl127_0; replace p127 := eq_true p127; replace q127 := eq_true q127; have ea_ := Option.some.inj (hx124_0.symm.trans hx127_0); injection ea_ with ea_ en_ ec_; subst ea_; subst ec_; clear en_; have p128 : 0 ≤ (x8_2 : Int) := oda; have q128 : x8_2 < ((rd_L1 l0_0 x7_1).length : Int) := oda; obtain ⟨ad128, e128, hx128_0⟩ := Kd.at_int HR127_0.out x8_2 p128 q128; cases e128; replace hx128_0 := cel HB hx128_0; replace p128 := eq_true p128; replace q128 := eq_true q128))
            go_roundg k2
            case measure => have := HK1.out; have := HK2.out; omega
            case rel => exact ⟨(rd (rd_L1 l0_0 x7_1) x8_2), (t126), (wrap64 (x8_2 + 1)), (by first | rfl | (simp; done) | (simp [*]; done)), (by first | rfl | (simp; done) | (simp [*]; done)), (by first | rfl | (simp; done) | (simp [*]; done)), H', ⟨by have := HK1.out; have := HK2.out; omega⟩, ⟨bkl BK122⟩, ⟨bel1 HB GE122⟩⟩
           ·rw [if_neg c14] at H
            exact absurd H (by simp)
          ·rw [if_neg c13] at H
           have c13b0 : decide (x6_2 < t126) = false := decide_eq_false c13
           clear c13
           by_cases c16 : t126 = x6_2
           ·rw [if_pos c16] at H
            have c16b0 : (t126 == x6_2) = true := beq_iff_eq.mpr c16
            have c16b1 : (t126 != x6_2) = false := bne_eq_false_iff_eq.mpr c16
            clear c16
            by_cases c17 : t126 > 0
            ·rw [if_pos c17] at H
             have c17b0 : decide (0 < t126) = true := decide_eq_true c17
             clear c17
             by_cases c18 : 0 ≤ x8_2
             ·rw [if_pos c18] at H
              have c18b0 : decide (0 ≤ x8_2) = true := decide_eq_true c18
              clear c18
              by_cases c19 : (rd (rd_L1 l0_0 x7_1) x8_2) < x5_2
              ·rw [if_pos c19] at H
               have c19b0 : decide ((rd (rd_L1 l0_0 x7_1) x8_2) < x5_2) = true := decide_eq_true c19
               clear c19
               have H' := Aside0.mk H
               clear H
               have hcz20_0 : wr.cell? ⟨gb122, 0, none⟩ = some (.slice A0_0 l0_0.length c0_0) := (blk_cell BK122.out 0).trans rfl
               have hfz20_0 := blk_frozen BK122.out 0
               have p124 : 0 ≤ (x7_1 : Int) := oda
               have q124 : x7_1 < (l0_0.length : Int) := oda
               obtain ⟨ad124, A124_0, c124_0, e124, hx124_0, hl124_0, hi124_0⟩ := at_L1 HR0_0.out x7_1 p124 q124
               cases e124
               replace hx124_0 := cel HB hx124_0
               have HR124_0 := Aside0.mk hi124_0
               have HC124_0 := Aside0.mk hl124_0
               clear hi124_0 hl124_0
               replace p124 := eq_true p124
               replace q124 := eq_true q124
               have p125 : 0 ≤ (x7_1 : Int) := oda
               have q125 : x7_1 < (l0_0.length : Int) := oda
               obtain ⟨ad125, A125_0, c125_0, e125, hx125_0, hl125_0, hi125_0⟩ := at_L1 HR0_0.out x7_1 p125 q125
               obtain rfl : ad124 = ad125 := (by injection e125)
               replace hx125_0 := cel HB hx125_0
               have HR125_0 := Aside0.mk hi125_0
               have HC125_0 := Aside0.mk hl125_0
               clear hi125_0 hl125_0
               replace p125 := eq_true p125
               replace q125 := eq_true q125
               have ea_ := Option.some.inj (hx124_0.symm.trans hx125_0)
               injection ea_ with ea_ en_ ec_
               subst ea_
               subst ec_
               clear en_
               go_wp2_with (first | ((with_reducible refine gate_callee (f := 48) rfl ?_); refine goesL_ (some 36) rfl rfl Try.func48 (by kernel_rfl) rfl #[.slice A124_0 (rd_L1 l0_0 x7_1).length c124_0, .int .i64 x8_2] rfl gmp ?_; (with_reducible refine (spec_l8Below.calls k2 _ _ (rd_L1 l0_0 x7_1) x8_2 t126 _ ?side1 ?side2 A12.out).mono ?_); (case side1 => exact cdl (Kd.C_below HR125_0.out HB.out)); (case side2 => exact HC125_0.out); rintro e w' ⟨rfl, ⟨nd, rfl⟩⟩; refine ⟨_, rfl, ?_⟩; have p129 : 0 ≤ (x7_1 : Int) := oda; have q129 : x7_1 < (l0_0.length : Int) := oda; obtain ⟨ad129, A129_0, c129_0, e129, hx129_0, hl129_0, hi129_0⟩ := at_L1 HR0_0.out x7_1 p129 q129; obtain rfl : ad124 = ad129 := (by injection e129); replace hx129_0 := cel HB hx129_0; have HR129_0 := Aside0.mk hi129_0; have HC129_0 := Aside0.mk hl129_0; clear hi129_0 hl129_0; replace p129 := eq_true p129; replace q129 := eq_true q129; have ea_ := Option.some.inj (hx124_0.symm.trans hx129_0); injection ea_ with ea_ en_ ec_; subst ea_; subst ec_; clear en_; have p130 : 0 ≤ (x8_2 : Int) := oda; have q130 : x8_2 < ((rd_L1 l0_0 x7_1).length : Int) := oda; obtain ⟨ad130, e130, hx130_0⟩ := Kd.at_int HR129_0.out x8_2 p130 q130; cases e130; replace hx130_0 := cel HB hx130_0; replace p130 := eq_true p130; replace q130 := eq_true q130; have p131 : 0 ≤ (x7_1 : Int) := oda; have q131 : x7_1 < (l0_0.length : Int) := oda; obtain ⟨ad131, A131_0, c131_0, e131, hx131_0, hl131_0, hi131_0⟩ := at_L1 HR0_0.out x7_1 p131 q131; obtain rfl : ad124 = ad131 := (by injection e131); replace hx131_0 := cel HB hx131_0; have HR131_0 := Aside0.mk hi131_0; have HC131_0 := Aside0.mk hl131_0; clear hi131_0 hl131_0; replace p131 := eq_true p131; replace q131 := eq_true q131; have ea_ := Option.some.inj (hx124_0.symm.trans hx131_0); injection ea_ with ea_ en_ ec_; subst ea_; subst ec_; clear en_; have p132 : 0 ≤ (x8_2 : Int) := oda; have q132 : x8_2 < ((rd_L1 l0_0 x7_1).length : Int) := oda; obtain ⟨ad132, e132, hx132_0⟩ := Kd.at_int HR131_0.out x8_2 p132 q132; cases e132; replace hx132_0 := cel HB hx132_0; replace p132 := eq_true p132; replace q132 := eq_true q132))
               go_roundg k2
               case measure => have := HK1.out; have := HK2.out; omega
               case rel => exact ⟨(rd (rd_L1 l0_0 x7_1) x8_2), (t126), (wrap64 (x8_2 + 1)), (by first | rfl | (simp; done) | (simp [*]; done)), (by first | rfl | (simp; done) | (simp [*]; done)), (by first | rfl | (simp; done) | (simp [*]; done)), H', ⟨by have := HK1.out; have := HK2.out; omega⟩, ⟨bkl BK122⟩, ⟨bel1 HB GE122⟩⟩
              ·rw [if_neg c19] at H
               have c19b0 : decide ((rd (rd_L1 l0_0 x7_1) x8_2) < x5_2) = false := decide_eq_false c19
               clear c19
               have H' := Aside0.mk H
               clear H
               have hcz21_0 : wr.cell? ⟨gb122, 0, none⟩ = some (.slice A0_0 l0_0.length c0_0) := (blk_cell BK122.out 0).trans rfl
               have hfz21_0 := blk_frozen BK122.out 0
               have p124 : 0 ≤ (x7_1 : Int) := oda
               have q124 : x7_1 < (l0_0.length : Int) := oda
               obtain ⟨ad124, A124_0, c124_0, e124, hx124_0, hl124_0, hi124_0⟩ := at_L1 HR0_0.out x7_1 p124 q124
               cases e124
               replace hx124_0 := cel HB hx124_0
               have HR124_0 := Aside0.mk hi124_0
               have HC124_0 := Aside0.mk hl124_0
               clear hi124_0 hl124_0
               replace p124 := eq_true p124
               replace q124 := eq_true q124
               have p125 : 0 ≤ (x7_1 : Int) := oda
               have q125 : x7_1 < (l0_0.length : Int) := oda
               obtain ⟨ad125, A125_0, c125_0, e125, hx125_0, hl125_0, hi125_0⟩ := at_L1 HR0_0.out x7_1 p125 q125
               obtain rfl : ad124 = ad125 := (by injection e125)
               replace hx125_0 := cel HB hx125_0
               have HR125_0 := Aside0.mk hi125_0
               have HC125_0 := Aside0.mk hl125_0
               clear hi125_0 hl125_0
               replace p125 := eq_true p125
               replace q125 := eq_true q125
               have ea_ := Option.some.inj (hx124_0.symm.trans hx125_0)
               injection ea_ with ea_ en_ ec_
               subst ea_
               subst ec_
               clear en_
               go_wp2_with (first | ((with_reducible refine gate_callee (f := 48) rfl ?_); refine goesL_ (some 36) rfl rfl Try.func48 (by kernel_rfl) rfl #[.slice A124_0 (rd_L1 l0_0 x7_1).length c124_0, .int .i64 x8_2] rfl gmp ?_; (with_reducible refine (spec_l8Below.calls k2 _ _ (rd_L1 l0_0 x7_1) x8_2 t126 _ ?side1 ?side2 A12.out).mono ?_); (case side1 => exact cdl (Kd.C_below HR125_0.out HB.out)); (case side2 => exact HC125_0.out); rintro e w' ⟨rfl, ⟨nd, rfl⟩⟩; refine ⟨_, rfl, ?_⟩; have p129 : 0 ≤ (x7_1 : Int) := oda; have q129 : x7_1 < (l0_0.length : Int) := oda; obtain ⟨ad129, A129_0, c129_0, e129, hx129_0, hl129_0, hi129_0⟩ := at_L1 HR0_0.out x7_1 p129 q129; obtain rfl : ad124 = ad129 := (by injection e129); replace hx129_0 := cel HB hx129_0; have HR129_0 := Aside0.mk hi129_0; have HC129_0 := Aside0.mk hl129_0; clear hi129_0 hl129_0; replace p129 := eq_true p129; replace q129 := eq_true q129; have ea_ := Option.some.inj (hx124_0.symm.trans hx129_0); injection ea_ with ea_ en_ ec_; subst ea_; subst ec_; clear en_; have p130 : 0 ≤ (x8_2 : Int) := oda; have q130 : x8_2 < ((rd_L1 l0_0 x7_1).length : Int) := oda; obtain ⟨ad130, e130, hx130_0⟩ := Kd.at_int HR129_0.out x8_2 p130 q130; cases e130; replace hx130_0 := cel HB hx130_0; replace p130 := eq_true p130; replace q130 := eq_true q130))
               go_roundg k2
               case measure => have := HK1.out; have := HK2.out; omega
               case rel => exact ⟨(x5_2), (x6_2), (wrap64 (x8_2 + 1)), (by first | rfl | (simp; done) | (simp [*]; done)), (by first | rfl | (simp; done) | (simp [*]; done)), (by first | rfl | (simp; done) | (simp [*]; done)), H', ⟨by have := HK1.out; have := HK2.out; omega⟩, ⟨bkl BK122⟩, ⟨bel1 HB GE122⟩⟩
             ·rw [if_neg c18] at H
              exact absurd H (by simp)
            ·rw [if_neg c17] at H
             have c17b0 : decide (0 < t126) = false := decide_eq_false c17
             clear c17
             have H' := Aside0.mk H
             clear H
             have hcz22_0 : wr.cell? ⟨gb122, 0, none⟩ = some (.slice A0_0 l0_0.length c0_0) := (blk_cell BK122.out 0).trans rfl
             have hfz22_0 := blk_frozen BK122.out 0
             have p124 : 0 ≤ (x7_1 : Int) := oda
             have q124 : x7_1 < (l0_0.length : Int) := oda
             obtain ⟨ad124, A124_0, c124_0, e124, hx124_0, hl124_0, hi124_0⟩ := at_L1 HR0_0.out x7_1 p124 q124
             cases e124
             replace hx124_0 := cel HB hx124_0
             have HR124_0 := Aside0.mk hi124_0
             have HC124_0 := Aside0.mk hl124_0
             clear hi124_0 hl124_0
             replace p124 := eq_true p124
             replace q124 := eq_true q124
             have p125 : 0 ≤ (x7_1 : Int) := oda
             have q125 : x7_1 < (l0_0.length : Int) := oda
             obtain ⟨ad125, A125_0, c125_0, e125, hx125_0, hl125_0, hi125_0⟩ := at_L1 HR0_0.out x7_1 p125 q125
             obtain rfl : ad124 = ad125 := (by injection e125)
             replace hx125_0 := cel HB hx125_0
             have HR125_0 := Aside0.mk hi125_0
             have HC125_0 := Aside0.mk hl125_0
             clear hi125_0 hl125_0
             replace p125 := eq_true p125
             replace q125 := eq_true q125
             have ea_ := Option.some.inj (hx124_0.symm.trans hx125_0)
             injection ea_ with ea_ en_ ec_
             subst ea_
             subst ec_
             clear en_
             go_wp2_with (first | ((with_reducible refine gate_callee (f := 48) rfl ?_); refine goesL_ (some 36) rfl rfl Try.func48 (by kernel_rfl) rfl #[.slice A124_0 (rd_L1 l0_0 x7_1).length c124_0, .int .i64 x8_2] rfl gmp ?_; (with_reducible refine (spec_l8Below.calls k2 _ _ (rd_L1 l0_0 x7_1) x8_2 t126 _ ?side1 ?side2 A12.out).mono ?_); (case side1 => exact cdl (Kd.C_below HR125_0.out HB.out)); (case side2 => exact HC125_0.out); rintro e w' ⟨rfl, ⟨nd, rfl⟩⟩; refine ⟨_, rfl, ?_⟩))
             go_roundg k2
             case measure => have := HK1.out; have := HK2.out; omega
             case rel => exact ⟨(x5_2), (x6_2), (wrap64 (x8_2 + 1)), (by first | rfl | (simp; done) | (simp [*]; done)), (by first | rfl | (simp; done) | (simp [*]; done)), (by first | rfl | (simp; done) | (simp [*]; done)), H', ⟨by have := HK1.out; have := HK2.out; omega⟩, ⟨bkl BK122⟩, ⟨bel1 HB GE122⟩⟩
           ·rw [if_neg c16] at H
            have c16b0 : (t126 == x6_2) = false := beq_eq_false_iff_ne.mpr c16
            have c16b1 : (t126 != x6_2) = true := bne_iff_ne.mpr c16
            have H' := Aside0.mk H
            clear H
            have hcz23_0 : wr.cell? ⟨gb122, 0, none⟩ = some (.slice A0_0 l0_0.length c0_0) := (blk_cell BK122.out 0).trans rfl
            have hfz23_0 := blk_frozen BK122.out 0
            have p124 : 0 ≤ (x7_1 : Int) := oda
            have q124 : x7_1 < (l0_0.length : Int) := oda
            obtain ⟨ad124, A124_0, c124_0, e124, hx124_0, hl124_0, hi124_0⟩ := at_L1 HR0_0.out x7_1 p124 q124
            cases e124
            replace hx124_0 := cel HB hx124_0
            have HR124_0 := Aside0.mk hi124_0
            have HC124_0 := Aside0.mk hl124_0
            clear hi124_0 hl124_0
            replace p124 := eq_true p124
            replace q124 := eq_true q124
            have p125 : 0 ≤ (x7_1 : Int) := oda
            have q125 : x7_1 < (l0_0.length : Int) := oda
            obtain ⟨ad125, A125_0, c125_0, e125, hx125_0, hl125_0, hi125_0⟩ := at_L1 HR0_0.out x7_1 p125 q125
            obtain rfl : ad124 = ad125 := (by injection e125)
            replace hx125_0 := cel HB hx125_0
            have HR125_0 := Aside0.mk hi125_0
            have HC125_0 := Aside0.mk hl125_0
            clear hi125_0 hl125_0
            replace p125 := eq_true p125
            replace q125 := eq_true q125
            have ea_ := Option.some.inj (hx124_0.symm.trans hx125_0)
            injection ea_ with ea_ en_ ec_
            subst ea_
            subst ec_
            clear en_
            go_wp2_with (first | ((with_reducible refine gate_callee (f := 48) rfl ?_); refine goesL_ (some 36) rfl rfl Try.func48 (by kernel_rfl) rfl #[.slice A124_0 (rd_L1 l0_0 x7_1).length c124_0, .int .i64 x8_2] rfl gmp ?_; (with_reducible refine (spec_l8Below.calls k2 _ _ (rd_L1 l0_0 x7_1) x8_2 t126 _ ?side1 ?side2 A12.out).mono ?_); (case side1 => exact cdl (Kd.C_below HR125_0.out HB.out)); (case side2 => exact HC125_0.out); rintro e w' ⟨rfl, ⟨nd, rfl⟩⟩; refine ⟨_, rfl, ?_⟩))
            go_roundg k2
            case measure => have := HK1.out; have := HK2.out; omega
            case rel => exact ⟨(x5_2), (x6_2), (wrap64 (x8_2 + 1)), (by first | rfl | (simp; done) | (simp [*]; done)), (by first | rfl | (simp; done) | (simp [*]; done)), (by first | rfl | (simp; done) | (simp [*]; done)), H', ⟨by have := HK1.out; have := HK2.out; omega⟩, ⟨bkl BK122⟩, ⟨bel1 HB GE122⟩⟩
         ·rw [if_neg c11] at H
          have c11b0 : decide (x8_2 < ((rd_L1 l0_0 x7_1).length : Int)) = false := decide_eq_false c11
          clear c11
          have H' := Aside0.mk H
          clear H
          have hcz24_0 : wr.cell? ⟨gb122, 0, none⟩ = some (.slice A0_0 l0_0.length c0_0) := (blk_cell BK122.out 0).trans rfl
          have hfz24_0 := blk_frozen BK122.out 0
          have p124 : 0 ≤ (x7_1 : Int) := oda
          have q124 : x7_1 < (l0_0.length : Int) := oda
          obtain ⟨ad124, A124_0, c124_0, e124, hx124_0, hl124_0, hi124_0⟩ := at_L1 HR0_0.out x7_1 p124 q124
          cases e124
          replace hx124_0 := cel HB hx124_0
          have HR124_0 := Aside0.mk hi124_0
          have HC124_0 := Aside0.mk hl124_0
          clear hi124_0 hl124_0
          replace p124 := eq_true p124
          replace q124 := eq_true q124
          go_wp2
          go_roundg k2
          case measure => have := HK1.out; have := HK2.out; omega
          case rel => exact ⟨(x5_2), (x6_2), (wrap64 (x7_1 + 1)), (by first | rfl | (simp; done) | (simp [*]; done)), (by first | rfl | (simp; done) | (simp [*]; done)), (by first | rfl | (simp; done) | (simp [*]; done)), H', ⟨by have := HK1.out; have := HK2.out; omega⟩, ⟨bkl BK122⟩, ⟨bel1 HB GE122⟩⟩
        ·rw [if_neg c10] at H
         exact absurd H (by simp)
       ·rw [if_neg c9] at H
        exact absurd H (by simp)
    ·rw [if_neg c7] at H
     have c7b0 : decide (x7_1 < (l0_0.length : Int)) = false := decide_eq_false c7
     clear c7
     simp only [Option.some.injEq, Prod.mk.injEq] at H
     obtain ⟨rfl, rfl, rfl⟩ := H
     have hcz25_0 : wr.cell? ⟨gb122, 0, none⟩ = some (.slice A0_0 l0_0.length c0_0) := (blk_cell BK122.out 0).trans rfl
     have hfz25_0 := blk_frozen BK122.out 0
     go_wp2
     go_ret3
     exact ⟨by first | rfl | (simp [errW_none, errW_some] <;> rfl) | (simp [*, errW_none, errW_some] <;> rfl), bel1 HB GE122⟩
 ·replace c3 := Bool.eq_false_iff.mpr c3
  subst c3
  have H1 : (some (0, 0, false)) = some (r1, r2, r3) := by rw [if_neg (show ¬ (false = true) by decide)] at H; exact H
  clear H
  have H := H1
  clear H1
  simp only [Option.some.injEq, Prod.mk.injEq] at H
  obtain ⟨rfl, rfl, rfl⟩ := H
  go_enter Try.func14, Try.ntmps14
  go_wp2_with (first | ((with_reducible refine gate_dst (N := 1) rfl ?_); refine box_event ?hg (N := 1) ?hd (cs := #[.slice A0_0 l0_0.length c0_0]) (t := 28) ?hr ?_; (case hd => rfl); (case hg => rfl); (case hr => first | (go_simp; done) | (go_simp; rfl)); intro gb122 hg w26 hbox hb; have n0_ := Aside0.mk (below_step (bel HB) hb); have n1_ := Aside0.mk (hbox); have n2_ := Aside0.mk ((by rw [hg]; exact (below_size (bel HB)) : w.heap.size ≤ gb122)); have n3_ := Aside0.mk ((by rw [hg]; exact (below_size (bel HB)) : w.heap.size ≤ gb122)); clear HB; have HB := n0_; have BK122 := n1_; have GW122 := n2_; have GE122 := n3_; clear n0_ n1_ n2_ n3_; clear hb hbox hg; have hcz27_0 : w26.cell? ⟨gb122, 0, none⟩ = some (.slice A0_0 l0_0.length c0_0) := (blk_cell BK122.out 0).trans rfl; have hfz27_0 := blk_frozen BK122.out 0) | ((with_reducible refine gate_callee (f := 47) rfl ?_); refine goesL_ (some 11) rfl rfl Try.func47 (by kernel_rfl) rfl #[.agg #[.slice A0_0 l0_0.length c0_0]] rfl gmp ?_; (with_reducible refine (spec_l5Good.calls k _ _ l0_0 false _ ?side1 ?side2 A2.out).mono ?_); (case side1 => exact cdl (Kd.C_below HR0_0.out HB.out)); (case side2 => exact HC0_0.out); rintro e w28 ⟨rfl, hb⟩; refine ⟨_, rfl, ?_⟩; have n0_ := Aside0.mk (blk_below (g := gb122) (o := .cells #[.slice A0_0 l0_0.length c0_0] 28 (0, 0)) (bkl BK122) hb); have n1_ := Aside0.mk (below_step (bel1 HB GE122) hb); clear BK122; clear HB; have BK122 := n0_; have HB := n1_; clear n0_ n1_; (try clear hb); (try clear hb2); (try clear hk); (try clear hi)))
  go_ret3
  exact ⟨by first | rfl | (simp [errW_none, errW_some] <;> rfl) | (simp [*, errW_none, errW_some] <;> rfl), bel1 HB GE122⟩

end Go.Proofs.Ytchjkaondonldaa.P
