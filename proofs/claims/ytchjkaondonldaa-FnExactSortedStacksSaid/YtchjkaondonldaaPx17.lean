-- Written by a program of this session over the translation (a variant of the printer, see wip/gen); Lean checks it.
import Derived.Test.YtchjkaondonldaaPx0
import Derived.Test.YtchjkaondonldaaPx2
import Derived.Test.YtchjkaondonldaaPx3
namespace Go.Proofs.Ytchjkaondonldaa.P
open Go.RowKit Go.Proofs.YtchjkaondonldaaW.PrintWords Go.Proofs.YtchjkaondonldaaW.PrintLast Go.Proofs.YtchjkaondonldaaW.PrintMore
attribute [local go_sem] Go.Proofs.Ytchjkaondonldaa.V.isSome_setCell max2_int min2_int max_two min_two max_three min_three max_four min_four   -- for this text's walks alone
set_option linter.unusedVariables false
set_option linter.unusedSimpArgs false

/-! ### spec_SortedStacks: function 20 -/
mutual
def spec_SortedStacks.l0 : Nat → List Int → Int → List (List Int) → Option (List Int × Bool)
 | 0, _, _, _ => none
 | k + 1, x4, x5, x220000 => if x5 < (x220000.length : Int) then (spec_SortedStacks.l1 k x4 x5 true 0 x220000) else (some (x4, true))
def spec_SortedStacks.l1 : Nat → List Int → Int → Bool → Int → List (List Int) → Option (List Int × Bool)
 | 0, _, _, _, _, _ => none
 | k + 1, x4, x5, x6, x7, x220000 => if 0 ≤ x5 then (if x5 < (x220000.length : Int) then (if x7 < ((rd_L1 x220000 x5).length : Int) then (if x6 = true then ((spec_l8Below.f k (rd_L1 x220000 x5) x7).bind fun t226 => (spec_SortedStacks.l1 k x4 x5 (t226 == 0) (wrap64 (x7 + 1)) x220000)) else (spec_SortedStacks.l1 k x4 x5 false (wrap64 (x7 + 1)) x220000)) else (if x6 = true then (if x4.length < 17592186044416 then (spec_SortedStacks.l0 k (x4 ++ [x5]) (wrap64 (x5 + 1)) x220000) else (none)) else (spec_SortedStacks.l0 k x4 (wrap64 (x5 + 1)) x220000))) else (none)) else (none)
end
def spec_SortedStacks.f (k : Nat) (l0_0 : List (List Int)) : Option (List Int × Bool) := (some (([] : List Int) : List Int)).bind fun y220 => ((spec_l5Good.f k l0_0).bind fun t223 => (if t223 = true then (spec_SortedStacks.l0 k y220 0 l0_0) else (some (y220, false))))
theorem spec_SortedStacks.mono_l : ∀ k, (∀ y0 y1 y2, LeO (spec_SortedStacks.l0 k y0 y1 y2) (spec_SortedStacks.l0 (k + 1) y0 y1 y2)) ∧ (∀ y0 y1 y2 y3 y4, LeO (spec_SortedStacks.l1 k y0 y1 y2 y3 y4) (spec_SortedStacks.l1 (k + 1) y0 y1 y2 y3 y4))
 | 0 => ⟨fun _ _ _ r h => by simp [spec_SortedStacks.l0] at h, fun _ _ _ _ _ r h => by simp [spec_SortedStacks.l1] at h⟩
 | k + 1 => by
  obtain ⟨ih0, ih1⟩ := spec_SortedStacks.mono_l k
  refine ⟨?_, ?_⟩
  ·intro y0 y1 y2
   unfold spec_SortedStacks.l0
   repeat' first
   | (with_reducible exact ih0 _ _ _)
   | (with_reducible exact ih1 _ _ _ _ _)
   | (with_reducible exact spec_l5Good.mono _ _)
   | (with_reducible exact spec_l8Below.mono _ _ _)
   | (with_reducible exact LeO.refl _)
   | (with_reducible exact LeO.none _)
   | (with_reducible refine LeO.ite ?_ ?_)
   | (with_reducible refine LeO.bind ?_ (fun _ => ?_))
   | exact ih0 _ _ _
   | exact ih1 _ _ _ _ _
   | exact spec_l5Good.mono _ _
   | exact spec_l8Below.mono _ _ _
   | exact LeO.none _
   | refine LeO.ite ?_ ?_
   | refine LeO.bind ?_ (fun _ => ?_)
  ·intro y0 y1 y2 y3 y4
   unfold spec_SortedStacks.l1
   repeat' first
   | (with_reducible exact ih0 _ _ _)
   | (with_reducible exact ih1 _ _ _ _ _)
   | (with_reducible exact spec_l5Good.mono _ _)
   | (with_reducible exact spec_l8Below.mono _ _ _)
   | (with_reducible exact LeO.refl _)
   | (with_reducible exact LeO.none _)
   | (with_reducible refine LeO.ite ?_ ?_)
   | (with_reducible refine LeO.bind ?_ (fun _ => ?_))
   | exact ih0 _ _ _
   | exact ih1 _ _ _ _ _
   | exact spec_l5Good.mono _ _
   | exact spec_l8Below.mono _ _ _
   | exact LeO.none _
   | refine LeO.ite ?_ ?_
   | refine LeO.bind ?_ (fun _ => ?_)
theorem spec_SortedStacks.mono : ∀ a0 k, LeO (spec_SortedStacks.f k a0) (spec_SortedStacks.f (k + 1) a0) := by
 intro a0 k
 obtain ⟨ih0, ih1⟩ := spec_SortedStacks.mono_l k
 unfold spec_SortedStacks.f
 repeat' first
   | (with_reducible exact ih0 _ _ _)
   | (with_reducible exact ih1 _ _ _ _ _)
   | (with_reducible exact spec_l5Good.mono _ _)
   | (with_reducible exact spec_l8Below.mono _ _ _)
   | (with_reducible exact LeO.refl _)
   | (with_reducible exact LeO.none _)
   | (with_reducible refine LeO.ite ?_ ?_)
   | (with_reducible refine LeO.bind ?_ (fun _ => ?_))
   | exact ih0 _ _ _
   | exact ih1 _ _ _ _ _
   | exact spec_l5Good.mono _ _
   | exact spec_l8Below.mono _ _ _
   | exact LeO.none _
   | refine LeO.ite ?_ ?_
   | refine LeO.bind ?_ (fun _ => ?_)
set_option maxHeartbeats 8000000 in
set_option maxRecDepth 100000 in
theorem spec_SortedStacks.calls (k : Nat) (A0_0 : Option Addr) (c0_0 : Nat) (l0_0 : List (List Int)) (r1 : List Int) (r2 : Bool) (w : World) (hr0_0 : Kd.C (Kd.slice 3 (Kd.int .i64)) w A0_0 l0_0.length l0_0) (hc0_0 : l0_0.length ≤ c0_0) (h : spec_SortedStacks.f k l0_0 = some (r1, r2)) :
  Calls Try.prog 20 #[.agg #[.slice A0_0 l0_0.length c0_0]] w fun e w' => ∃ v0_ : Value, e = .returned (.tuple #[v0_, .bool r2]) ∧ Kd.R (Kd.int .i64) 3 w' w.heap.size (fun _ => True) v0_ r1 ∧ Below w.heap.size w w' := by
 have hu28 := Try.underlying28
 have HR0_0 := Aside0.mk hr0_0
 have HC0_0 := Aside0.mk hc0_0
 clear hr0_0 hc0_0
 have HB := Aside0.mk (Below.refl w.heap.size w)
 have H : ((some (([] : List Int) : List Int)).bind fun y220 => ((spec_l5Good.f k l0_0).bind fun t223 => (if t223 = true then (spec_SortedStacks.l0 k y220 0 l0_0) else (some (y220, false))))) = some (r1, r2) := h
 clear h
 obtain ⟨y220, hy220⟩ : ∃ y_ : List Int, y_ = (([] : List Int)) := ⟨_, rfl⟩
 replace H : ((spec_l5Good.f k l0_0).bind fun t223 => (if t223 = true then (spec_SortedStacks.l0 k y220 0 l0_0) else (some (y220, false)))) = some (r1, r2) := by first | (rw [hy220]; with_reducible exact H) | (have H2_ := (Option.bind_some _ _).symm.trans H; rw [hy220]; with_reducible exact H2_) | (have H2_ := (Option.bind_some _ _).symm.trans H; with_reducible exact H2_) | with_reducible exact H | (rw [hy220]; exact H) | exact H
 have Ny220 := Aside0.mk hy220
 clear hy220
 replace H := Option.bind_eq_some_iff.mp H
 obtain ⟨t223, A20, H⟩ := H
 replace H : (if t223 = true then (spec_SortedStacks.l0 k y220 0 l0_0) else (some (y220, false))) = some (r1, r2) := H
 have A2 := Aside0.mk A20
 clear A20
 by_cases c3 : t223 = true
 ·subst c3
  have H1 : (spec_SortedStacks.l0 k y220 0 l0_0) = some (r1, r2) := by rw [if_pos rfl] at H; exact H
  clear H
  have H := H1
  clear H1
  have H' := Aside0.mk H
  clear H
  go_enter Try.func20, Try.ntmps20
  go_wp2_with (first | ((with_reducible refine gate_dst (N := 1) rfl ?_); refine box_event ?hg (N := 1) ?hd (cs := #[.slice A0_0 l0_0.length c0_0]) (t := 28) ?hr ?_; (case hd => rfl); (case hg => rfl); (case hr => first | (go_simp; done) | (go_simp; rfl)); intro gb219 hg w4 hbox hb; have n0_ := Aside0.mk (below_step (bel HB) hb); have n1_ := Aside0.mk (hbox); have n2_ := Aside0.mk ((by rw [hg]; exact (below_size (bel HB)) : w.heap.size ≤ gb219)); have n3_ := Aside0.mk ((by rw [hg]; exact (below_size (bel HB)) : w.heap.size ≤ gb219)); clear HB; have HB := n0_; have BK219 := n1_; have GW219 := n2_; have GE219 := n3_; clear n0_ n1_ n2_ n3_; clear hb hbox hg) | ((with_reducible refine gate_dst (N := 8) rfl ?_); refine Kd.R_lit (Kd.int .i64) _ 3 ?hg (N := 8) ?hd (xs := ([] : List Int)) (inner := []) (ok := fun _ => True) (okp := fun _ => True) ?hr ?hp (fun _ hk => hk) trivial (Below.refl _ _) (Nat.le_refl _) (by simp) ?_; (case hd => rfl); (case hg => rfl); (case hr => first | (go_simp; done) | (go_simp; rfl)); (case hp => exact (Reps.none _ _)); intro v221 w5 ho6 hb hg_ hnew_; clear hg_ hnew_; (first | rw [← Ny220.out] at ho6 | (simp only [Int.reduceToNat] at ho6; rw [← Ny220.out] at ho6)); have n0_ := Aside0.mk (Kd.R_lower ho6 (below_size (bel1 HB GE219))); have n1_ := Aside0.mk (blk_below (g := gb219) (o := .cells #[.slice A0_0 l0_0.length c0_0] 28 (0, 0)) (bkl BK219) hb); have n2_ := Aside0.mk (below_step (bel1 HB GE219) hb); clear BK219; clear HB; have HO222 := n0_; have BK219 := n1_; have HB := n2_; clear n0_ n1_ n2_; clear hb ho6; have hcz7_0 : w5.cell? ⟨gb219, 0, none⟩ = some (.slice A0_0 l0_0.length c0_0) := (blk_cell BK219.out 0).trans rfl; have hfz7_0 := blk_frozen BK219.out 0) | ((with_reducible refine gate_callee (f := 47) rfl ?_); refine goesL_ (some 10) rfl rfl Try.func47 (by kernel_rfl) rfl #[.agg #[.slice A0_0 l0_0.length c0_0]] rfl gmp ?_; (with_reducible refine (spec_l5Good.calls k _ _ l0_0 true _ ?side1 ?side2 A2.out).mono ?_); (case side1 => exact cdl (Kd.C_below HR0_0.out HB.out)); (case side2 => exact HC0_0.out); rintro e w8 ⟨rfl, hb⟩; refine ⟨_, rfl, ?_⟩; have n0_ := Aside0.mk (Kd.R_below (rdl HO222) hb); have n1_ := Aside0.mk (blk_below (g := gb219) (o := .cells #[.slice A0_0 l0_0.length c0_0] 28 (0, 0)) (bkl BK219) hb); have n2_ := Aside0.mk (below_step (bel1 HB GE219) hb); clear HO222; clear BK219; clear HB; have HO222 := n0_; have BK219 := n1_; have HB := n2_; clear n0_ n1_ n2_; (try clear hb); (try clear hb2); (try clear hk); (try clear hi)))
  go_loopg [4, 5] k (fun kq v4 v5 w' => ∃ (x4_1 : List Int) (x5_1 : Int), v5 = .int .i64 x5_1 ∧ Aside0 (spec_SortedStacks.l0 kq x4_1 x5_1 l0_0 = some (r1, r2)) ∧ Aside0 (kq ≤ k) ∧ Aside0 (Kd.R (Kd.int .i64) 3 w' w.heap.size (fun _ => True) v4 x4_1) ∧ Aside0 (w'.heap[gb219]? = some (.cells #[(.slice A0_0 l0_0.length c0_0)] 28 (0, 0))) ∧ Aside0 (Below w.heap.size w w'))
  case atStart => exact ⟨(y220), (0), (by first | rfl | (simp; done) | (simp [*]; done)), H', ⟨Nat.le_refl _⟩, ⟨rdl HO222⟩, ⟨bkl BK219⟩, ⟨bel1 HB GE219⟩⟩
  case round =>
   clear H'
   try clear c2
   try clear p2
   try clear c3
   try clear c4
   try clear hcz7_0
   try clear hfz7_0
   obtain ⟨x4_1, x5_1, rfl, HA, HK1, HO_4, BK219, HB⟩ := hrel
   cases gk with
   | zero => exact absurd HA.out (by simp [spec_SortedStacks.l0])
   | succ k1 =>
    have H := HA.out
    clear HA
    simp only [spec_SortedStacks.l0] at H
    by_cases c9 : x5_1 < (l0_0.length : Int)
    ·rw [if_pos c9] at H
     have c9b0 : decide (x5_1 < (l0_0.length : Int)) = true := decide_eq_true c9
     clear c9
     have H' := Aside0.mk H
     clear H
     have hcz10_0 : wr.cell? ⟨gb219, 0, none⟩ = some (.slice A0_0 l0_0.length c0_0) := (blk_cell BK219.out 0).trans rfl
     have hfz10_0 := blk_frozen BK219.out 0
     go_wp2
     go_loopg [6, 7] k1 (fun kq v6 v7 w' => ∃ (x6_2 : Bool) (x7_2 : Int), v6 = .bool x6_2 ∧ v7 = .int .i64 x7_2 ∧ Aside0 (spec_SortedStacks.l1 kq x4_1 x5_1 x6_2 x7_2 l0_0 = some (r1, r2)) ∧ Aside0 (kq ≤ k1) ∧ Aside0 (Kd.R (Kd.int .i64) 3 w' w.heap.size (fun _ => True) u4 x4_1) ∧ Aside0 (w'.heap[gb219]? = some (.cells #[(.slice A0_0 l0_0.length c0_0)] 28 (0, 0))) ∧ Aside0 (Below w.heap.size w w'))
     case atStart => exact ⟨(true), (0), (by first | rfl | (simp; done) | (simp [*]; done)), (by first | rfl | (simp; done) | (simp [*]; done)), H', ⟨Nat.le_refl _⟩, ⟨rdl HO_4⟩, ⟨bkl BK219⟩, ⟨bel1 HB GE219⟩⟩
     case round =>
      clear H'
      try clear c2
      try clear p2
      try clear c3
      try clear c4
      try clear c9
      try clear c9b0
      try clear hcz10_0
      try clear hcz7_0
      try clear hfz10_0
      try clear hfz7_0
      try clear p2
      obtain ⟨x6_2, x7_2, rfl, rfl, HA, HK2, HO_4, BK219, HB⟩ := hrel
      cases gk with
      | zero => exact absurd HA.out (by simp [spec_SortedStacks.l1])
      | succ k2 =>
       have H := HA.out
       clear HA
       simp only [spec_SortedStacks.l1] at H
       by_cases c11 : 0 ≤ x5_1
       ·rw [if_pos c11] at H
        have c11b0 : decide (0 ≤ x5_1) = true := decide_eq_true c11
        clear c11
        by_cases c12 : x5_1 < (l0_0.length : Int)
        ·rw [if_pos c12] at H
         have c12b0 : decide (x5_1 < (l0_0.length : Int)) = true := decide_eq_true c12
         clear c12
         by_cases c13 : x7_2 < ((rd_L1 l0_0 x5_1).length : Int)
         ·rw [if_pos c13] at H
          have c13b0 : decide (x7_2 < ((rd_L1 l0_0 x5_1).length : Int)) = true := decide_eq_true c13
          clear c13
          by_cases c14 : x6_2 = true
          ·subst c14
           have H1 : ((spec_l8Below.f k2 (rd_L1 l0_0 x5_1) x7_2).bind fun t226 => (spec_SortedStacks.l1 k2 x4_1 x5_1 (t226 == 0) (wrap64 (x7_2 + 1)) l0_0)) = some (r1, r2) := by rw [if_pos rfl] at H; exact H
           clear H
           have H := H1
           clear H1
           replace H := Option.bind_eq_some_iff.mp H
           obtain ⟨t226, A150, H⟩ := H
           replace H : (spec_SortedStacks.l1 k2 x4_1 x5_1 (t226 == 0) (wrap64 (x7_2 + 1)) l0_0) = some (r1, r2) := H
           have A15 := Aside0.mk A150
           clear A150
           have H' := Aside0.mk H
           clear H
           have hcz16_0 : wr.cell? ⟨gb219, 0, none⟩ = some (.slice A0_0 l0_0.length c0_0) := (blk_cell BK219.out 0).trans rfl
           have hfz16_0 := blk_frozen BK219.out 0
           have p224 : 0 ≤ (x5_1 : Int) := oda
           have q224 : x5_1 < (l0_0.length : Int) := oda
           obtain ⟨ad224, A224_0, c224_0, e224, hx224_0, hl224_0, hi224_0⟩ := at_L1 HR0_0.out x5_1 p224 q224
           cases e224
           replace hx224_0 := cel HB hx224_0
           have HR224_0 := Aside0.mk hi224_0
           have HC224_0 := Aside0.mk hl224_0
           clear hi224_0 hl224_0
           replace p224 := eq_true p224
           replace q224 := eq_true q224
           have p225 : 0 ≤ (x5_1 : Int) := oda
           have q225 : x5_1 < (l0_0.length : Int) := oda
           obtain ⟨ad225, A225_0, c225_0, e225, hx225_0, hl225_0, hi225_0⟩ := at_L1 HR0_0.out x5_1 p225 q225
           obtain rfl : ad224 = ad225 := (by injection e225)
           replace hx225_0 := cel HB hx225_0
           have HR225_0 := Aside0.mk hi225_0
           have HC225_0 := Aside0.mk hl225_0
           clear hi225_0 hl225_0
           replace p225 := eq_true p225
           replace q225 := eq_true q225
           have ea_ := Option.some.inj (hx224_0.symm.trans hx225_0)
           injection ea_ with ea_ en_ ec_
           subst ea_
           subst ec_
           clear en_
           go_wp2_with (first | (go_at_call 48; (with_reducible refine (spec_l8Below.calls k2 _ _ (rd_L1 l0_0 x5_1) x7_2 t226 _ ?side1 ?side2 A15.out).mono ?_); (case side1 => exact cdl (Kd.C_below HR225_0.out HB.out)); (case side2 => exact HC225_0.out); rintro e w' ⟨rfl, ⟨nd, rfl⟩⟩))
           go_roundg k2
           case measure => have := HK1.out; have := HK2.out; omega
           case rel => exact ⟨((t226 == 0)), (wrap64 (x7_2 + 1)), (by first | rfl | (simp; done) | (simp [*]; done)), (by first | rfl | (simp; done) | (simp [*]; done)), H', ⟨by have := HK1.out; have := HK2.out; omega⟩, ⟨rdl HO_4⟩, ⟨bkl BK219⟩, ⟨bel1 HB GE219⟩⟩
          ·replace c14 := Bool.eq_false_iff.mpr c14
           subst c14
           have H1 : (spec_SortedStacks.l1 k2 x4_1 x5_1 false (wrap64 (x7_2 + 1)) l0_0) = some (r1, r2) := by rw [if_neg (show ¬ (false = true) by decide)] at H; exact H
           clear H
           have H := H1
           clear H1
           have H' := Aside0.mk H
           clear H
           have hcz17_0 : wr.cell? ⟨gb219, 0, none⟩ = some (.slice A0_0 l0_0.length c0_0) := (blk_cell BK219.out 0).trans rfl
           have hfz17_0 := blk_frozen BK219.out 0
           have p224 : 0 ≤ (x5_1 : Int) := oda
           have q224 : x5_1 < (l0_0.length : Int) := oda
           obtain ⟨ad224, A224_0, c224_0, e224, hx224_0, hl224_0, hi224_0⟩ := at_L1 HR0_0.out x5_1 p224 q224
           cases e224
           replace hx224_0 := cel HB hx224_0
           have HR224_0 := Aside0.mk hi224_0
           have HC224_0 := Aside0.mk hl224_0
           clear hi224_0 hl224_0
           replace p224 := eq_true p224
           replace q224 := eq_true q224
           go_wp2
           go_roundg k2
           case measure => have := HK1.out; have := HK2.out; omega
           case rel => exact ⟨(false), (wrap64 (x7_2 + 1)), (by first | rfl | (simp; done) | (simp [*]; done)), (by first | rfl | (simp; done) | (simp [*]; done)), H', ⟨by have := HK1.out; have := HK2.out; omega⟩, ⟨rdl HO_4⟩, ⟨bkl BK219⟩, ⟨bel1 HB GE219⟩⟩
         ·rw [if_neg c13] at H
          have c13b0 : decide (x7_2 < ((rd_L1 l0_0 x5_1).length : Int)) = false := decide_eq_false c13
          clear c13
          by_cases c18 : x6_2 = true
          ·subst c18
           have H1 : (if x4_1.length < 17592186044416 then (spec_SortedStacks.l0 k2 (x4_1 ++ [x5_1]) (wrap64 (x5_1 + 1)) l0_0) else (none)) = some (r1, r2) := by rw [if_pos rfl] at H; exact H
           clear H
           have H := H1
           clear H1
           by_cases c19 : x4_1.length < 17592186044416
           ·rw [if_pos c19] at H
            have LMc19 := Aside0.mk c19
            clear c19
            obtain ⟨y227, hy227⟩ : ∃ y_ : List Int, y_ = (x4_1 ++ [x5_1]) := ⟨_, rfl⟩
            replace H : (spec_SortedStacks.l0 k2 y227 (wrap64 (x5_1 + 1)) l0_0) = some (r1, r2) := by first | (rw [hy227]; with_reducible exact H) | (have H2_ := (Option.bind_some _ _).symm.trans H; rw [hy227]; with_reducible exact H2_) | (have H2_ := (Option.bind_some _ _).symm.trans H; with_reducible exact H2_) | with_reducible exact H | (rw [hy227]; exact H) | exact H
            have Ny227 := Aside0.mk hy227
            clear hy227
            have H' := Aside0.mk H
            clear H
            have hcz20_0 : wr.cell? ⟨gb219, 0, none⟩ = some (.slice A0_0 l0_0.length c0_0) := (blk_cell BK219.out 0).trans rfl
            have hfz20_0 := blk_frozen BK219.out 0
            have p224 : 0 ≤ (x5_1 : Int) := oda
            have q224 : x5_1 < (l0_0.length : Int) := oda
            obtain ⟨ad224, A224_0, c224_0, e224, hx224_0, hl224_0, hi224_0⟩ := at_L1 HR0_0.out x5_1 p224 q224
            cases e224
            replace hx224_0 := cel HB hx224_0
            have HR224_0 := Aside0.mk hi224_0
            have HC224_0 := Aside0.mk hl224_0
            clear hi224_0 hl224_0
            replace p224 := eq_true p224
            replace q224 := eq_true q224
            go_wp2_with (first | ((with_reducible refine gate_builtin (b := .append) (xs := #[.tmp 42, .tmp 44]) rfl ?_); at_builtin; refine Kd.R_append (Kd.int .i64) (w0 := w) w.heap.size rfl (.tmp 42) (.tmp 44) 35 3 (.int .i64 0) 8 rfl Try.underlying35 info3 rfl (by decide) (by omega) u4 x4_1 x5_1 [.int .i64 x5_1] (fun _ => True) (fun _ => False) rfl rfl ?aP (fun _ hk => hk.elim) ?aF ?aO ?aB ?aS ?aL ?_; (case aP => exact rfl); (case aB => exact (bel1 HB GE219)); (case aF => exact (fun _ _ => trivial)); (case aO => exact (rdl HO_4)); (case aS => exact (below_size (bel1 HB GE219))); (case aL => have := LMc19.out; omega); intro v228 w21 ho hb hg hat; rw [← Ny227.out] at ho; have n0_ := Aside0.mk (blk_grown (g := gb219) (o := .cells #[.slice (some ad224) l0_0.length c0_0] 28 (0, 0)) (bkl BK219) hg (Kd.R_ne HO_4.out BK219.out (by decide))); have n1_ := Aside0.mk (hb); have n2_ := Aside0.mk (ho); clear BK219; clear HB; clear HO_4; have BK219 := n0_; have HB := n1_; have HO229 := n2_; clear n0_ n1_ n2_; clear ho hb hg hat))
            go_roundg k2
            case measure => have := HK1.out; have := HK2.out; omega
            case rel => exact ⟨(y227), (wrap64 (x5_1 + 1)), (by first | rfl | (simp; done) | (simp [*]; done)), H', ⟨by have := HK1.out; have := HK2.out; omega⟩, ⟨rdl HO229⟩, ⟨bkl BK219⟩, ⟨bel1 HB GE219⟩⟩
           ·rw [if_neg c19] at H
            exact absurd H (by simp)
          ·replace c18 := Bool.eq_false_iff.mpr c18
           subst c18
           have H1 : (spec_SortedStacks.l0 k2 x4_1 (wrap64 (x5_1 + 1)) l0_0) = some (r1, r2) := by rw [if_neg (show ¬ (false = true) by decide)] at H; exact H
           clear H
           have H := H1
           clear H1
           have H' := Aside0.mk H
           clear H
           have hcz22_0 : wr.cell? ⟨gb219, 0, none⟩ = some (.slice A0_0 l0_0.length c0_0) := (blk_cell BK219.out 0).trans rfl
           have hfz22_0 := blk_frozen BK219.out 0
           have p224 : 0 ≤ (x5_1 : Int) := oda
           have q224 : x5_1 < (l0_0.length : Int) := oda
           obtain ⟨ad224, A224_0, c224_0, e224, hx224_0, hl224_0, hi224_0⟩ := at_L1 HR0_0.out x5_1 p224 q224
           cases e224
           replace hx224_0 := cel HB hx224_0
           have HR224_0 := Aside0.mk hi224_0
           have HC224_0 := Aside0.mk hl224_0
           clear hi224_0 hl224_0
           replace p224 := eq_true p224
           replace q224 := eq_true q224
           go_wp2
           go_roundg k2
           case measure => have := HK1.out; have := HK2.out; omega
           case rel => exact ⟨(x4_1), (wrap64 (x5_1 + 1)), (by first | rfl | (simp; done) | (simp [*]; done)), H', ⟨by have := HK1.out; have := HK2.out; omega⟩, ⟨rdl HO_4⟩, ⟨bkl BK219⟩, ⟨bel1 HB GE219⟩⟩
        ·rw [if_neg c12] at H
         exact absurd H (by simp)
       ·rw [if_neg c11] at H
        exact absurd H (by simp)
    ·rw [if_neg c9] at H
     have c9b0 : decide (x5_1 < (l0_0.length : Int)) = false := decide_eq_false c9
     clear c9
     simp only [Option.some.injEq, Prod.mk.injEq] at H
     obtain ⟨rfl, rfl⟩ := H
     have hcz23_0 : wr.cell? ⟨gb219, 0, none⟩ = some (.slice A0_0 l0_0.length c0_0) := (blk_cell BK219.out 0).trans rfl
     have hfz23_0 := blk_frozen BK219.out 0
     go_wp2
     go_ret2
     exact ⟨_, by first | rfl | (simp [errW_none, errW_some] <;> rfl) | (simp [*, errW_none, errW_some] <;> rfl), rdl HO_4, bel1 HB GE219⟩
 ·replace c3 := Bool.eq_false_iff.mpr c3
  subst c3
  have H1 : (some (y220, false)) = some (r1, r2) := by rw [if_neg (show ¬ (false = true) by decide)] at H; exact H
  clear H
  have H := H1
  clear H1
  simp only [Option.some.injEq, Prod.mk.injEq] at H
  obtain ⟨rfl, rfl⟩ := H
  go_enter Try.func20, Try.ntmps20
  go_wp2_with (first | ((with_reducible refine gate_dst (N := 1) rfl ?_); refine box_event ?hg (N := 1) ?hd (cs := #[.slice A0_0 l0_0.length c0_0]) (t := 28) ?hr ?_; (case hd => rfl); (case hg => rfl); (case hr => first | (go_simp; done) | (go_simp; rfl)); intro gb219 hg w24 hbox hb; have n0_ := Aside0.mk (below_step (bel HB) hb); have n1_ := Aside0.mk (hbox); have n2_ := Aside0.mk ((by rw [hg]; exact (below_size (bel HB)) : w.heap.size ≤ gb219)); have n3_ := Aside0.mk ((by rw [hg]; exact (below_size (bel HB)) : w.heap.size ≤ gb219)); clear HB; have HB := n0_; have BK219 := n1_; have GW219 := n2_; have GE219 := n3_; clear n0_ n1_ n2_ n3_; clear hb hbox hg) | ((with_reducible refine gate_dst (N := 8) rfl ?_); refine Kd.R_lit (Kd.int .i64) _ 3 ?hg (N := 8) ?hd (xs := ([] : List Int)) (inner := []) (ok := fun _ => True) (okp := fun _ => True) ?hr ?hp (fun _ hk => hk) trivial (Below.refl _ _) (Nat.le_refl _) (by simp) ?_; (case hd => rfl); (case hg => rfl); (case hr => first | (go_simp; done) | (go_simp; rfl)); (case hp => exact (Reps.none _ _)); intro v221 w25 ho26 hb hg_ hnew_; clear hg_ hnew_; (first | rw [← Ny220.out] at ho26 | (simp only [Int.reduceToNat] at ho26; rw [← Ny220.out] at ho26)); have n0_ := Aside0.mk (Kd.R_lower ho26 (below_size (bel1 HB GE219))); have n1_ := Aside0.mk (blk_below (g := gb219) (o := .cells #[.slice A0_0 l0_0.length c0_0] 28 (0, 0)) (bkl BK219) hb); have n2_ := Aside0.mk (below_step (bel1 HB GE219) hb); clear BK219; clear HB; have HO222 := n0_; have BK219 := n1_; have HB := n2_; clear n0_ n1_ n2_; clear hb ho26; have hcz27_0 : w25.cell? ⟨gb219, 0, none⟩ = some (.slice A0_0 l0_0.length c0_0) := (blk_cell BK219.out 0).trans rfl; have hfz27_0 := blk_frozen BK219.out 0) | ((with_reducible refine gate_callee (f := 47) rfl ?_); refine goesL_ (some 10) rfl rfl Try.func47 (by kernel_rfl) rfl #[.agg #[.slice A0_0 l0_0.length c0_0]] rfl gmp ?_; (with_reducible refine (spec_l5Good.calls k _ _ l0_0 false _ ?side1 ?side2 A2.out).mono ?_); (case side1 => exact cdl (Kd.C_below HR0_0.out HB.out)); (case side2 => exact HC0_0.out); rintro e w28 ⟨rfl, hb⟩; refine ⟨_, rfl, ?_⟩; have n0_ := Aside0.mk (Kd.R_below (rdl HO222) hb); have n1_ := Aside0.mk (blk_below (g := gb219) (o := .cells #[.slice A0_0 l0_0.length c0_0] 28 (0, 0)) (bkl BK219) hb); have n2_ := Aside0.mk (below_step (bel1 HB GE219) hb); clear HO222; clear BK219; clear HB; have HO222 := n0_; have BK219 := n1_; have HB := n2_; clear n0_ n1_ n2_; (try clear hb); (try clear hb2); (try clear hk); (try clear hi)))
  go_ret2
  exact ⟨_, by first | rfl | (simp [errW_none, errW_some] <;> rfl) | (simp [*, errW_none, errW_some] <;> rfl), rdl HO222, bel1 HB GE219⟩

end Go.Proofs.Ytchjkaondonldaa.P
