-- Written by a program of this session over the translation (a variant of the printer, see wip/gen); Lean checks it.
import Derived.Test.YtmpmcckjpkijnaaPx0
import Derived.Test.YtmpmcckjpkijnaaPx7
import Derived.Test.YtmpmcckjpkijnaaPx9
namespace Go.Proofs.Ytmpmcckjpkijnaa.P
open Go.RowKit Go.Proofs.YtmpmcckjpkijnaaW.PrintWords Go.Proofs.YtmpmcckjpkijnaaW.PrintLast Go.Proofs.YtmpmcckjpkijnaaW.PrintMore
attribute [local go_sem] Go.Proofs.Ytmpmcckjpkijnaa.V.isSome_setCell max2_int min2_int max_two min_two max_three min_three max_four min_four   -- for this text's walks alone
set_option linter.unusedVariables false
set_option linter.unusedSimpArgs false

/-! ### spec_WorstStack: function 18 -/
mutual
def spec_WorstStack.l0 : Nat → Int → Int → List (S73) → Int → List (List Int) → Option (Int × Int × Bool)
 | 0, _, _, _, _, _ => none
 | k + 1, x9, x10, x11, x12, x327000 => if x12 < (x327000.length : Int) then (spec_WorstStack.l1 k x9 x10 x11 x12 0 0 x327000) else (some (x9, x10, true))
def spec_WorstStack.l1 : Nat → Int → Int → List (S73) → Int → Int → Int → List (List Int) → Option (Int × Int × Bool)
 | 0, _, _, _, _, _, _, _ => none
 | k + 1, x9, x10, x11, x12, x13, x14, x327000 => if x14 < (x11.length : Int) then (if 0 ≤ x14 then (if ((rd_T73 x11 x14).f1) = x12 then (spec_WorstStack.l1 k x9 x10 x11 x12 (wrap64 (x13 + 1)) (wrap64 (x14 + 1)) x327000) else (spec_WorstStack.l1 k x9 x10 x11 x12 x13 (wrap64 (x14 + 1)) x327000)) else (none)) else (if x13 > x10 then (spec_WorstStack.l0 k x12 x13 x11 (wrap64 (x12 + 1)) x327000) else (spec_WorstStack.l0 k x9 x10 x11 (wrap64 (x12 + 1)) x327000))
end
def spec_WorstStack.f (k : Nat) (l0_0 : List (List Int)) (l1 : List (S69)) (a2 : Int) : Option (Int × Int × Bool) := (spec_l7Asked.f k l0_0 l1 a2).bind fun t327 => (if t327 = true then ((spec_l7Findings.f k l0_0 l1 a2).bind fun t328 => (spec_WorstStack.l0 k 0 (-1) t328 0 l0_0)) else (some (0, 0, false)))
theorem spec_WorstStack.mono_l : ∀ k, (∀ y0 y1 y2 y3 y4, LeO (spec_WorstStack.l0 k y0 y1 y2 y3 y4) (spec_WorstStack.l0 (k + 1) y0 y1 y2 y3 y4)) ∧ (∀ y0 y1 y2 y3 y4 y5 y6, LeO (spec_WorstStack.l1 k y0 y1 y2 y3 y4 y5 y6) (spec_WorstStack.l1 (k + 1) y0 y1 y2 y3 y4 y5 y6))
 | 0 => ⟨fun _ _ _ _ _ r h => by simp [spec_WorstStack.l0] at h, fun _ _ _ _ _ _ _ r h => by simp [spec_WorstStack.l1] at h⟩
 | k + 1 => by
  obtain ⟨ih0, ih1⟩ := spec_WorstStack.mono_l k
  refine ⟨?_, ?_⟩
  ·intro y0 y1 y2 y3 y4
   unfold spec_WorstStack.l0
   repeat' first
   | (with_reducible exact ih0 _ _ _ _ _)
   | (with_reducible exact ih1 _ _ _ _ _ _ _)
   | (with_reducible exact spec_l7Asked.mono _ _ _ _)
   | (with_reducible exact spec_l7Findings.mono _ _ _ _)
   | (with_reducible exact LeO.refl _)
   | (with_reducible exact LeO.none _)
   | (with_reducible refine LeO.ite ?_ ?_)
   | (with_reducible refine LeO.bind ?_ (fun _ => ?_))
   | exact ih0 _ _ _ _ _
   | exact ih1 _ _ _ _ _ _ _
   | exact spec_l7Asked.mono _ _ _ _
   | exact spec_l7Findings.mono _ _ _ _
   | exact LeO.none _
   | refine LeO.ite ?_ ?_
   | refine LeO.bind ?_ (fun _ => ?_)
  ·intro y0 y1 y2 y3 y4 y5 y6
   unfold spec_WorstStack.l1
   repeat' first
   | (with_reducible exact ih0 _ _ _ _ _)
   | (with_reducible exact ih1 _ _ _ _ _ _ _)
   | (with_reducible exact spec_l7Asked.mono _ _ _ _)
   | (with_reducible exact spec_l7Findings.mono _ _ _ _)
   | (with_reducible exact LeO.refl _)
   | (with_reducible exact LeO.none _)
   | (with_reducible refine LeO.ite ?_ ?_)
   | (with_reducible refine LeO.bind ?_ (fun _ => ?_))
   | exact ih0 _ _ _ _ _
   | exact ih1 _ _ _ _ _ _ _
   | exact spec_l7Asked.mono _ _ _ _
   | exact spec_l7Findings.mono _ _ _ _
   | exact LeO.none _
   | refine LeO.ite ?_ ?_
   | refine LeO.bind ?_ (fun _ => ?_)
theorem spec_WorstStack.mono : ∀ a0 a1 a2 k, LeO (spec_WorstStack.f k a0 a1 a2) (spec_WorstStack.f (k + 1) a0 a1 a2) := by
 intro a0 a1 a2 k
 obtain ⟨ih0, ih1⟩ := spec_WorstStack.mono_l k
 unfold spec_WorstStack.f
 repeat' first
   | (with_reducible exact ih0 _ _ _ _ _)
   | (with_reducible exact ih1 _ _ _ _ _ _ _)
   | (with_reducible exact spec_l7Asked.mono _ _ _ _)
   | (with_reducible exact spec_l7Findings.mono _ _ _ _)
   | (with_reducible exact LeO.refl _)
   | (with_reducible exact LeO.none _)
   | (with_reducible refine LeO.ite ?_ ?_)
   | (with_reducible refine LeO.bind ?_ (fun _ => ?_))
   | exact ih0 _ _ _ _ _
   | exact ih1 _ _ _ _ _ _ _
   | exact spec_l7Asked.mono _ _ _ _
   | exact spec_l7Findings.mono _ _ _ _
   | exact LeO.none _
   | refine LeO.ite ?_ ?_
   | refine LeO.bind ?_ (fun _ => ?_)
set_option maxHeartbeats 8000000 in
set_option maxRecDepth 100000 in
theorem spec_WorstStack.calls (k : Nat) (A0_0 : Option Addr) (c0_0 : Nat) (l0_0 : List (List Int)) (A1 : Option Addr) (c1 : Nat) (l1 : List (S69)) (a2 : Int) (r1 : Int) (r2 : Int) (r3 : Bool) (w : World) (hr0_0 : Kd.C (Kd.slice 3 (Kd.int .i64)) w A0_0 l0_0.length l0_0) (hc0_0 : l0_0.length ≤ c0_0) (hr1 : Kd.C k69 w A1 l1.length l1) (hc1 : l1.length ≤ c1) (h : spec_WorstStack.f k l0_0 l1 a2 = some (r1, r2, r3)) :
  Calls Try.prog 18 #[.agg #[.slice A0_0 l0_0.length c0_0], .slice A1 l1.length c1, .int .i64 a2] w fun e w' => e = .returned (.tuple #[.int .i64 r1, .int .i64 r2, .bool r3]) ∧ Below w.heap.size w w' := by
 have hu30 := Try.underlying30
 have HR0_0 := Aside0.mk hr0_0
 have HC0_0 := Aside0.mk hc0_0
 clear hr0_0 hc0_0
 have HR1 := Aside0.mk hr1
 have HC1 := Aside0.mk hc1
 clear hr1 hc1
 have HB := Aside0.mk (Below.refl w.heap.size w)
 have H : ((spec_l7Asked.f k l0_0 l1 a2).bind fun t327 => (if t327 = true then ((spec_l7Findings.f k l0_0 l1 a2).bind fun t328 => (spec_WorstStack.l0 k 0 (-1) t328 0 l0_0)) else (some (0, 0, false)))) = some (r1, r2, r3) := h
 clear h
 replace H := Option.bind_eq_some_iff.mp H
 obtain ⟨t327, A40, H⟩ := H
 replace H : (if t327 = true then ((spec_l7Findings.f k l0_0 l1 a2).bind fun t328 => (spec_WorstStack.l0 k 0 (-1) t328 0 l0_0)) else (some (0, 0, false))) = some (r1, r2, r3) := H
 have A4 := Aside0.mk A40
 clear A40
 by_cases c5 : t327 = true
 ·subst c5
  have H1 : ((spec_l7Findings.f k l0_0 l1 a2).bind fun t328 => (spec_WorstStack.l0 k 0 (-1) t328 0 l0_0)) = some (r1, r2, r3) := by rw [if_pos rfl] at H; exact H
  clear H
  have H := H1
  clear H1
  replace H := Option.bind_eq_some_iff.mp H
  obtain ⟨t328, A60, H⟩ := H
  replace H : (spec_WorstStack.l0 k 0 (-1) t328 0 l0_0) = some (r1, r2, r3) := H
  have A6 := Aside0.mk A60
  clear A60
  have H' := Aside0.mk H
  clear H
  go_enter Try.func18, Try.ntmps18
  go_wp2_with (first | ((with_reducible refine gate_dst (N := 3) rfl ?_); refine box_event ?hg (N := 3) ?hd (cs := #[.slice A0_0 l0_0.length c0_0]) (t := 30) ?hr ?_; (case hd => rfl); (case hg => rfl); (case hr => first | (go_simp; done) | (go_simp; rfl)); intro gb326 hg w7 hbox hb; have n0_ := Aside0.mk (below_step (bel HB) hb); have n1_ := Aside0.mk (hbox); have n2_ := Aside0.mk ((by rw [hg]; exact (below_size (bel HB)) : w.heap.size ≤ gb326)); have n3_ := Aside0.mk ((by rw [hg]; exact (below_size (bel HB)) : w.heap.size ≤ gb326)); clear HB; have HB := n0_; have BK326 := n1_; have GW326 := n2_; have GE326 := n3_; clear n0_ n1_ n2_ n3_; clear hb hbox hg; have hcz8_0 : w7.cell? ⟨gb326, 0, none⟩ = some (.slice A0_0 l0_0.length c0_0) := (blk_cell BK326.out 0).trans rfl; have hfz8_0 := blk_frozen BK326.out 0) | ((with_reducible refine gate_callee (f := 46) rfl ?_); refine goesL_ (some 18) rfl rfl Try.func46 (by kernel_rfl) rfl #[.agg #[.slice A0_0 l0_0.length c0_0], .slice A1 l1.length c1, .int .i64 a2] rfl gmp ?_; (with_reducible refine (spec_l7Asked.calls k _ _ l0_0 _ _ l1 a2 true _ ?side1 ?side2 ?side3 ?side4 A4.out).mono ?_); (case side1 => exact cdl (Kd.C_below HR0_0.out HB.out)); (case side2 => exact HC0_0.out); (case side3 => exact cdl (Kd.C_below HR1.out HB.out)); (case side4 => exact HC1.out); rintro e w9 ⟨rfl, hb⟩; refine ⟨_, rfl, ?_⟩; have n0_ := Aside0.mk (blk_below (g := gb326) (o := .cells #[.slice A0_0 l0_0.length c0_0] 30 (0, 0)) (bkl BK326) hb); have n1_ := Aside0.mk (below_step (bel1 HB GE326) hb); clear BK326; clear HB; have BK326 := n0_; have HB := n1_; clear n0_ n1_; (try clear hb); (try clear hb2); (try clear hk); (try clear hi); have hcz10_0 : w9.cell? ⟨gb326, 0, none⟩ = some (.slice A0_0 l0_0.length c0_0) := (blk_cell BK326.out 0).trans rfl; have hfz10_0 := blk_frozen BK326.out 0) | ((with_reducible refine gate_callee (f := 47) rfl ?_); refine goesL_ (some 23) rfl rfl Try.func47 (by kernel_rfl) rfl #[.agg #[.slice A0_0 l0_0.length c0_0], .slice A1 l1.length c1, .int .i64 a2] rfl gmp ?_; (with_reducible refine (spec_l7Findings.calls k _ _ l0_0 _ _ l1 a2 t328 _ ?side1 ?side2 ?side3 ?side4 A6.out).mono ?_); (case side1 => exact cdl (Kd.C_below HR0_0.out HB.out)); (case side2 => exact HC0_0.out); (case side3 => exact cdl (Kd.C_below HR1.out HB.out)); (case side4 => exact HC1.out); rintro e w11 ⟨v329, rfl, ho0, hb⟩; refine ⟨_, rfl, ?_⟩; have n0_ := Aside0.mk (Kd.R_lower ho0 (below_size (bel1 HB GE326))); have n1_ := Aside0.mk (blk_below (g := gb326) (o := .cells #[.slice A0_0 l0_0.length c0_0] 30 (0, 0)) (bkl BK326) hb); have n2_ := Aside0.mk (below_step (bel1 HB GE326) hb); clear BK326; clear HB; have HO330 := n0_; have BK326 := n1_; have HB := n2_; clear n0_ n1_ n2_; (try clear hb); (try clear hb2); (try clear hk); (try clear hi); (try clear ho0)))
  go_loopg [9, 10, 12] k (fun kq v9 v10 v12 w' => ∃ (x9_1 : Int) (x10_1 : Int) (x12_1 : Int), v9 = .int .i64 x9_1 ∧ v10 = .int .i64 x10_1 ∧ v12 = .int .i64 x12_1 ∧ Aside0 (spec_WorstStack.l0 kq x9_1 x10_1 t328 x12_1 l0_0 = some (r1, r2, r3)) ∧ Aside0 (kq ≤ k) ∧ Aside0 (Kd.R k73 73 w' w.heap.size (fun _ => True) v329 t328) ∧ Aside0 (w'.heap[gb326]? = some (.cells #[(.slice A0_0 l0_0.length c0_0)] 30 (0, 0))) ∧ Aside0 (Below w.heap.size w w'))
  case atStart => exact ⟨(0), ((-1)), (0), (by first | rfl | (simp; done) | (simp [*]; done)), (by first | rfl | (simp; done) | (simp [*]; done)), (by first | rfl | (simp; done) | (simp [*]; done)), H', ⟨Nat.le_refl _⟩, ⟨rdl HO330⟩, ⟨bkl BK326⟩, ⟨bel1 HB GE326⟩⟩
  case round =>
   clear H'
   try clear c1
   try clear p2
   try clear c4
   try clear c5
   try clear hcz10_0
   try clear hcz8_0
   try clear hfz10_0
   try clear hfz8_0
   obtain ⟨x9_1, x10_1, x12_1, rfl, rfl, rfl, HA, HK1, HO_11, BK326, HB⟩ := hrel
   cases gk with
   | zero => exact absurd HA.out (by simp [spec_WorstStack.l0])
   | succ k1 =>
    have H := HA.out
    clear HA
    simp only [spec_WorstStack.l0] at H
    by_cases c12 : x12_1 < (l0_0.length : Int)
    ·rw [if_pos c12] at H
     have c12b0 : decide (x12_1 < (l0_0.length : Int)) = true := decide_eq_true c12
     clear c12
     have H' := Aside0.mk H
     clear H
     have hcz13_0 : wr.cell? ⟨gb326, 0, none⟩ = some (.slice A0_0 l0_0.length c0_0) := (blk_cell BK326.out 0).trans rfl
     have hfz13_0 := blk_frozen BK326.out 0
     go_wp2
     go_loopg [13, 14] k1 (fun kq v13 v14 w' => ∃ (x13_2 : Int) (x14_2 : Int), v13 = .int .i64 x13_2 ∧ v14 = .int .i64 x14_2 ∧ Aside0 (spec_WorstStack.l1 kq x9_1 x10_1 t328 x12_1 x13_2 x14_2 l0_0 = some (r1, r2, r3)) ∧ Aside0 (kq ≤ k1) ∧ Aside0 (Kd.R k73 73 w' w.heap.size (fun _ => True) v329 t328) ∧ Aside0 (w'.heap[gb326]? = some (.cells #[(.slice A0_0 l0_0.length c0_0)] 30 (0, 0))) ∧ Aside0 (Below w.heap.size w w'))
     case atStart => exact ⟨(0), (0), (by first | rfl | (simp; done) | (simp [*]; done)), (by first | rfl | (simp; done) | (simp [*]; done)), H', ⟨Nat.le_refl _⟩, ⟨rdl HO_11⟩, ⟨bkl BK326⟩, ⟨bel1 HB GE326⟩⟩
     case round =>
      clear H'
      try clear c1
      try clear p2
      try clear c4
      try clear c5
      try clear c12
      try clear c12b0
      try clear hcz10_0
      try clear hcz13_0
      try clear hcz8_0
      try clear hfz10_0
      try clear hfz13_0
      try clear hfz8_0
      try clear p2
      obtain ⟨x13_2, x14_2, rfl, rfl, HA, HK2, HO_11, BK326, HB⟩ := hrel
      cases gk with
      | zero => exact absurd HA.out (by simp [spec_WorstStack.l1])
      | succ k2 =>
       have H := HA.out
       clear HA
       simp only [spec_WorstStack.l1] at H
       by_cases c14 : x14_2 < (t328.length : Int)
       ·rw [if_pos c14] at H
        have c14b0 : decide (x14_2 < (t328.length : Int)) = true := decide_eq_true c14
        clear c14
        by_cases c15 : 0 ≤ x14_2
        ·rw [if_pos c15] at H
         have c15b0 : decide (0 ≤ x14_2) = true := decide_eq_true c15
         clear c15
         by_cases c16 : ((rd_T73 t328 x14_2).f1) = x12_1
         ·rw [if_pos c16] at H
          have c16b0 : (((rd_T73 t328 x14_2).f1) == x12_1) = true := beq_iff_eq.mpr c16
          have c16b1 : (((rd_T73 t328 x14_2).f1) != x12_1) = false := bne_eq_false_iff_eq.mpr c16
          clear c16
          have H' := Aside0.mk H
          clear H
          obtain ⟨Ao17, co17, eo17⟩ := Kd.R_slice HO_11.out
          subst eo17
          have p331 : 0 ≤ (x14_2 : Int) := oda
          have q331 : x14_2 < (t328.length : Int) := oda
          obtain ⟨ad331, e331, hx331_0, hx331_1, hx331_2⟩ := at_T73 (Kd.R_reads' HO_11.out).2.2 x14_2 p331 q331
          cases e331
          replace p331 := eq_true p331
          replace q331 := eq_true q331
          go_wp2
          go_roundg k2
          case measure => have := HK1.out; have := HK2.out; omega
          case rel => exact ⟨(wrap64 (x13_2 + 1)), (wrap64 (x14_2 + 1)), (by first | rfl | (simp; done) | (simp [*]; done)), (by first | rfl | (simp; done) | (simp [*]; done)), H', ⟨by have := HK1.out; have := HK2.out; omega⟩, ⟨rdl HO_11⟩, ⟨bkl BK326⟩, ⟨bel1 HB GE326⟩⟩
         ·rw [if_neg c16] at H
          have c16b0 : (((rd_T73 t328 x14_2).f1) == x12_1) = false := beq_eq_false_iff_ne.mpr c16
          have c16b1 : (((rd_T73 t328 x14_2).f1) != x12_1) = true := bne_iff_ne.mpr c16
          have H' := Aside0.mk H
          clear H
          obtain ⟨Ao18, co18, eo18⟩ := Kd.R_slice HO_11.out
          subst eo18
          have p331 : 0 ≤ (x14_2 : Int) := oda
          have q331 : x14_2 < (t328.length : Int) := oda
          obtain ⟨ad331, e331, hx331_0, hx331_1, hx331_2⟩ := at_T73 (Kd.R_reads' HO_11.out).2.2 x14_2 p331 q331
          cases e331
          replace p331 := eq_true p331
          replace q331 := eq_true q331
          go_wp2
          go_roundg k2
          case measure => have := HK1.out; have := HK2.out; omega
          case rel => exact ⟨(x13_2), (wrap64 (x14_2 + 1)), (by first | rfl | (simp; done) | (simp [*]; done)), (by first | rfl | (simp; done) | (simp [*]; done)), H', ⟨by have := HK1.out; have := HK2.out; omega⟩, ⟨rdl HO_11⟩, ⟨bkl BK326⟩, ⟨bel1 HB GE326⟩⟩
        ·rw [if_neg c15] at H
         exact absurd H (by simp)
       ·rw [if_neg c14] at H
        have c14b0 : decide (x14_2 < (t328.length : Int)) = false := decide_eq_false c14
        clear c14
        by_cases c19 : x13_2 > x10_1
        ·rw [if_pos c19] at H
         have c19b0 : decide (x10_1 < x13_2) = true := decide_eq_true c19
         clear c19
         have H' := Aside0.mk H
         clear H
         obtain ⟨Ao20, co20, eo20⟩ := Kd.R_slice HO_11.out
         subst eo20
         go_wp2
         go_roundg k2
         case measure => have := HK1.out; have := HK2.out; omega
         case rel => exact ⟨(x12_1), (x13_2), (wrap64 (x12_1 + 1)), (by first | rfl | (simp; done) | (simp [*]; done)), (by first | rfl | (simp; done) | (simp [*]; done)), (by first | rfl | (simp; done) | (simp [*]; done)), H', ⟨by have := HK1.out; have := HK2.out; omega⟩, ⟨rdl HO_11⟩, ⟨bkl BK326⟩, ⟨bel1 HB GE326⟩⟩
        ·rw [if_neg c19] at H
         have c19b0 : decide (x10_1 < x13_2) = false := decide_eq_false c19
         clear c19
         have H' := Aside0.mk H
         clear H
         obtain ⟨Ao21, co21, eo21⟩ := Kd.R_slice HO_11.out
         subst eo21
         go_wp2
         go_roundg k2
         case measure => have := HK1.out; have := HK2.out; omega
         case rel => exact ⟨(x9_1), (x10_1), (wrap64 (x12_1 + 1)), (by first | rfl | (simp; done) | (simp [*]; done)), (by first | rfl | (simp; done) | (simp [*]; done)), (by first | rfl | (simp; done) | (simp [*]; done)), H', ⟨by have := HK1.out; have := HK2.out; omega⟩, ⟨rdl HO_11⟩, ⟨bkl BK326⟩, ⟨bel1 HB GE326⟩⟩
    ·rw [if_neg c12] at H
     have c12b0 : decide (x12_1 < (l0_0.length : Int)) = false := decide_eq_false c12
     clear c12
     simp only [Option.some.injEq, Prod.mk.injEq] at H
     obtain ⟨rfl, rfl, rfl⟩ := H
     have hcz22_0 : wr.cell? ⟨gb326, 0, none⟩ = some (.slice A0_0 l0_0.length c0_0) := (blk_cell BK326.out 0).trans rfl
     have hfz22_0 := blk_frozen BK326.out 0
     go_wp2
     go_ret3
     exact ⟨by first | rfl | (simp [errW_none, errW_some] <;> rfl) | (simp [*, errW_none, errW_some] <;> rfl), bel1 HB GE326⟩
 ·replace c5 := Bool.eq_false_iff.mpr c5
  subst c5
  have H1 : (some (0, 0, false)) = some (r1, r2, r3) := by rw [if_neg (show ¬ (false = true) by decide)] at H; exact H
  clear H
  have H := H1
  clear H1
  simp only [Option.some.injEq, Prod.mk.injEq] at H
  obtain ⟨rfl, rfl, rfl⟩ := H
  go_enter Try.func18, Try.ntmps18
  go_wp2_with (first | ((with_reducible refine gate_dst (N := 3) rfl ?_); refine box_event ?hg (N := 3) ?hd (cs := #[.slice A0_0 l0_0.length c0_0]) (t := 30) ?hr ?_; (case hd => rfl); (case hg => rfl); (case hr => first | (go_simp; done) | (go_simp; rfl)); intro gb326 hg w23 hbox hb; have n0_ := Aside0.mk (below_step (bel HB) hb); have n1_ := Aside0.mk (hbox); have n2_ := Aside0.mk ((by rw [hg]; exact (below_size (bel HB)) : w.heap.size ≤ gb326)); have n3_ := Aside0.mk ((by rw [hg]; exact (below_size (bel HB)) : w.heap.size ≤ gb326)); clear HB; have HB := n0_; have BK326 := n1_; have GW326 := n2_; have GE326 := n3_; clear n0_ n1_ n2_ n3_; clear hb hbox hg; have hcz24_0 : w23.cell? ⟨gb326, 0, none⟩ = some (.slice A0_0 l0_0.length c0_0) := (blk_cell BK326.out 0).trans rfl; have hfz24_0 := blk_frozen BK326.out 0) | ((with_reducible refine gate_callee (f := 46) rfl ?_); refine goesL_ (some 18) rfl rfl Try.func46 (by kernel_rfl) rfl #[.agg #[.slice A0_0 l0_0.length c0_0], .slice A1 l1.length c1, .int .i64 a2] rfl gmp ?_; (with_reducible refine (spec_l7Asked.calls k _ _ l0_0 _ _ l1 a2 false _ ?side1 ?side2 ?side3 ?side4 A4.out).mono ?_); (case side1 => exact cdl (Kd.C_below HR0_0.out HB.out)); (case side2 => exact HC0_0.out); (case side3 => exact cdl (Kd.C_below HR1.out HB.out)); (case side4 => exact HC1.out); rintro e w25 ⟨rfl, hb⟩; refine ⟨_, rfl, ?_⟩; have n0_ := Aside0.mk (blk_below (g := gb326) (o := .cells #[.slice A0_0 l0_0.length c0_0] 30 (0, 0)) (bkl BK326) hb); have n1_ := Aside0.mk (below_step (bel1 HB GE326) hb); clear BK326; clear HB; have BK326 := n0_; have HB := n1_; clear n0_ n1_; (try clear hb); (try clear hb2); (try clear hk); (try clear hi)))
  go_ret3
  exact ⟨by first | rfl | (simp [errW_none, errW_some] <;> rfl) | (simp [*, errW_none, errW_some] <;> rfl), bel1 HB GE326⟩

end Go.Proofs.Ytmpmcckjpkijnaa.P
