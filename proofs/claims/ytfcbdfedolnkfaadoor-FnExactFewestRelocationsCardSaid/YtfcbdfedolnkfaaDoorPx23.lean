-- Written by a program of this session over the translation (a variant of the printer, see wip/gen); Lean checks it.
import Derived.Test.YtfcbdfedolnkfaaDoorPx0
import Derived.Test.YtfcbdfedolnkfaaDoorPx1
import Derived.Test.YtfcbdfedolnkfaaDoorPx7
import Derived.Test.YtfcbdfedolnkfaaDoorPx9
import Derived.Test.YtfcbdfedolnkfaaDoorPx17
import Derived.Test.YtfcbdfedolnkfaaDoorPx18
namespace Go.Proofs.YtfcbdfedolnkfaaDoor.P
open Go.RowKit Go.Proofs.YtfcbdfedolnkfaaDoorW.PrintWords Go.Proofs.YtfcbdfedolnkfaaDoorW.PrintLast Go.Proofs.YtfcbdfedolnkfaaDoorW.PrintMore
attribute [local go_sem] Go.Proofs.YtfcbdfedolnkfaaDoor.V.isSome_setCell max2_int min2_int max_two min_two max_three min_three max_four min_four   -- for this text's walks alone
set_option linter.unusedVariables false
set_option linter.unusedSimpArgs false

/-! ### spec_CountRelocations: function 28 -/
def spec_CountRelocations.l0 : Nat → List (S47) → Int → Int → Option (Int)
 | 0, _, _, _ => none
 | k + 1, x0, x3, x4 => if x4 < (x0.length : Int) then (if 0 ≤ x4 then (if ((rd_T47 x0 x4).f1) = (-1) then (spec_CountRelocations.l0 k x0 x3 (wrap64 (x4 + 1))) else (spec_CountRelocations.l0 k x0 (wrap64 (x3 + 1)) (wrap64 (x4 + 1)))) else (none)) else (some x3)
def spec_CountRelocations.f (k : Nat) (l0 : List (S47)) : Option (Int) := spec_CountRelocations.l0 k l0 0 0
theorem spec_CountRelocations.mono_l : ∀ k, (∀ y0 y1 y2, LeO (spec_CountRelocations.l0 k y0 y1 y2) (spec_CountRelocations.l0 (k + 1) y0 y1 y2))
 | 0 => fun _ _ _ r h => by simp [spec_CountRelocations.l0] at h
 | k + 1 => by
  have ih0 := spec_CountRelocations.mono_l k
  ·intro y0 y1 y2
   unfold spec_CountRelocations.l0
   repeat' first
   | (with_reducible exact ih0 _ _ _)
   | (with_reducible exact LeO.refl _)
   | (with_reducible exact LeO.none _)
   | (with_reducible refine LeO.ite ?_ ?_)
   | (with_reducible refine LeO.bind ?_ (fun _ => ?_))
   | exact ih0 _ _ _
   | exact LeO.none _
   | refine LeO.ite ?_ ?_
   | refine LeO.bind ?_ (fun _ => ?_)
theorem spec_CountRelocations.mono : ∀ a0 k, LeO (spec_CountRelocations.f k a0) (spec_CountRelocations.f (k + 1) a0) := by
 intro a0 k
 have ih0 := spec_CountRelocations.mono_l k
 unfold spec_CountRelocations.f
 repeat' first
   | (with_reducible exact ih0 _ _ _)
   | (with_reducible exact LeO.refl _)
   | (with_reducible exact LeO.none _)
   | (with_reducible refine LeO.ite ?_ ?_)
   | (with_reducible refine LeO.bind ?_ (fun _ => ?_))
   | exact ih0 _ _ _
   | exact LeO.none _
   | refine LeO.ite ?_ ?_
   | refine LeO.bind ?_ (fun _ => ?_)
set_option maxHeartbeats 8000000 in
set_option maxRecDepth 100000 in
theorem spec_CountRelocations.calls (k : Nat) (A0 : Option Addr) (c0 : Nat) (l0 : List (S47)) (r : Int) (w : World) (hr0 : Kd.C k47 w A0 l0.length l0) (hc0 : l0.length ≤ c0) (h : spec_CountRelocations.f k l0 = some r) :
  Calls Tryd.prog 28 #[.slice A0 l0.length c0] w fun e w' => e = .returned (.int .i64 r) ∧ Drawn0 w w' := by
 have HR0 := Aside0.mk hr0
 have HC0 := Aside0.mk hc0
 clear hr0 hc0
 have H : (spec_CountRelocations.l0 k l0 0 0) = some r := h
 clear h
 have H' := Aside0.mk H
 clear H
 go_enter Tryd.func28, Tryd.ntmps28
 go_wp2
 go_loopg [3, 4] k (fun kq v3 v4 w' => ∃ (x3_1 : Int) (x4_1 : Int), v3 = .int .i64 x3_1 ∧ v4 = .int .i64 x4_1 ∧ Aside0 (spec_CountRelocations.l0 kq l0 x3_1 x4_1 = some r) ∧ Aside0 (kq ≤ k) ∧ Drawn0 w w')
 case atStart => exact ⟨(0), (0), (by first | rfl | (simp; done) | (simp [*]; done)), (by first | rfl | (simp; done) | (simp [*]; done)), H', ⟨Nat.le_refl _⟩, by repeat (first | exact Drawn0.refl _ | apply Drawn0.step)⟩
 case round =>
  clear H'
  obtain ⟨x3_1, x4_1, rfl, rfl, HA, HK1, ⟨m1, rfl⟩⟩ := hrel
  cases gk with
  | zero => exact absurd HA.out (by simp [spec_CountRelocations.l0])
  | succ k1 =>
   have H := HA.out
   clear HA
   simp only [spec_CountRelocations.l0] at H
   by_cases c2 : x4_1 < (l0.length : Int)
   ·rw [if_pos c2] at H
    have c2b0 : decide (x4_1 < (l0.length : Int)) = true := decide_eq_true c2
    clear c2
    by_cases c3 : 0 ≤ x4_1
    ·rw [if_pos c3] at H
     have c3b0 : decide (0 ≤ x4_1) = true := decide_eq_true c3
     clear c3
     by_cases c4 : ((rd_T47 l0 x4_1).f1) = (-1)
     ·rw [if_pos c4] at H
      have c4b0 : (((rd_T47 l0 x4_1).f1) == (-1)) = true := beq_iff_eq.mpr c4
      have c4b1 : (((rd_T47 l0 x4_1).f1) != (-1)) = false := bne_eq_false_iff_eq.mpr c4
      clear c4
      have H' := Aside0.mk H
      clear H
      have p339 : 0 ≤ (x4_1 : Int) := oda
      have q339 : x4_1 < (l0.length : Int) := oda
      obtain ⟨ad339, e339, hx339_0, hx339_1⟩ := at_T47 HR0.out x4_1 p339 q339
      cases e339
      replace p339 := eq_true p339
      replace q339 := eq_true q339
      go_wp2
      go_roundg k1
      case measure => have := HK1.out; omega
      case rel => exact ⟨(x3_1), (wrap64 (x4_1 + 1)), (by first | rfl | (simp; done) | (simp [*]; done)), (by first | rfl | (simp; done) | (simp [*]; done)), H', ⟨by have := HK1.out; omega⟩, by repeat (first | exact Drawn0.refl _ | apply Drawn0.step)⟩
     ·rw [if_neg c4] at H
      have c4b0 : (((rd_T47 l0 x4_1).f1) == (-1)) = false := beq_eq_false_iff_ne.mpr c4
      have c4b1 : (((rd_T47 l0 x4_1).f1) != (-1)) = true := bne_iff_ne.mpr c4
      have H' := Aside0.mk H
      clear H
      have p339 : 0 ≤ (x4_1 : Int) := oda
      have q339 : x4_1 < (l0.length : Int) := oda
      obtain ⟨ad339, e339, hx339_0, hx339_1⟩ := at_T47 HR0.out x4_1 p339 q339
      cases e339
      replace p339 := eq_true p339
      replace q339 := eq_true q339
      go_wp2
      go_roundg k1
      case measure => have := HK1.out; omega
      case rel => exact ⟨(wrap64 (x3_1 + 1)), (wrap64 (x4_1 + 1)), (by first | rfl | (simp; done) | (simp [*]; done)), (by first | rfl | (simp; done) | (simp [*]; done)), H', ⟨by have := HK1.out; omega⟩, by repeat (first | exact Drawn0.refl _ | apply Drawn0.step)⟩
    ·rw [if_neg c3] at H
     exact absurd H (by simp)
   ·rw [if_neg c2] at H
    have c2b0 : decide (x4_1 < (l0.length : Int)) = false := decide_eq_false c2
    clear c2
    obtain rfl := Option.some.inj H
    go_wp2
    go_ret
    exact ⟨by first | rfl | (simp; done) | (simp [*]; done), by repeat (first | exact Drawn0.refl _ | apply Drawn0.step)⟩

/-! ### spec_FewestRelocations: function 17 -/
def spec_FewestRelocations.f (k : Nat) (l0_0 : List (List Int)) (l1 : List Int) : Option (Int × Bool) := (spec_BestSteps.f k l0_0 l1).bind fun bt341 => (if bt341.2 = true then ((spec_CountRelocations.f k bt341.1).bind fun t345 => (some (t345, true))) else (some (0, false)))
theorem spec_FewestRelocations.mono : ∀ a0 a1 k, LeO (spec_FewestRelocations.f k a0 a1) (spec_FewestRelocations.f (k + 1) a0 a1) := by
 intro a0 a1 k
 unfold spec_FewestRelocations.f
 repeat' first
   | (with_reducible exact spec_BestSteps.mono _ _ _)
   | (with_reducible exact spec_CountRelocations.mono _ _)
   | (with_reducible exact LeO.refl _)
   | (with_reducible exact LeO.none _)
   | (with_reducible refine LeO.ite ?_ ?_)
   | (with_reducible refine LeO.bind ?_ (fun _ => ?_))
   | exact spec_BestSteps.mono _ _ _
   | exact spec_CountRelocations.mono _ _
   | exact LeO.none _
   | refine LeO.ite ?_ ?_
   | refine LeO.bind ?_ (fun _ => ?_)
set_option maxHeartbeats 8000000 in
set_option maxRecDepth 100000 in
theorem spec_FewestRelocations.calls (k : Nat) (A0_0 : Option Addr) (c0_0 : Nat) (l0_0 : List (List Int)) (A1 : Option Addr) (c1 : Nat) (l1 : List Int) (r1 : Int) (r2 : Bool) (w : World) (hr0_0 : Kd.C (Kd.slice 3 (Kd.int .i64)) w A0_0 l0_0.length l0_0) (hc0_0 : l0_0.length ≤ c0_0) (hr1 : Kd.C (Kd.int .i64) w A1 l1.length l1) (hc1 : l1.length ≤ c1) (h : spec_FewestRelocations.f k l0_0 l1 = some (r1, r2)) :
  Calls Tryd.prog 17 #[.agg #[.slice A0_0 l0_0.length c0_0], .slice A1 l1.length c1] w fun e w' => e = .returned (.tuple #[.int .i64 r1, .bool r2]) ∧ Below w.heap.size w w' := by
 have hu30 := Tryd.underlying30
 have HR0_0 := Aside0.mk hr0_0
 have HC0_0 := Aside0.mk hc0_0
 clear hr0_0 hc0_0
 have HR1 := Aside0.mk hr1
 have HC1 := Aside0.mk hc1
 clear hr1 hc1
 have HB := Aside0.mk (Below.refl w.heap.size w)
 have H : ((spec_BestSteps.f k l0_0 l1).bind fun bt341 => (if bt341.2 = true then ((spec_CountRelocations.f k bt341.1).bind fun t345 => (some (t345, true))) else (some (0, false)))) = some (r1, r2) := h
 clear h
 replace H := Option.bind_eq_some_iff.mp H
 obtain ⟨⟨t341, t344⟩, A30, H⟩ := H
 replace H : (if t344 = true then ((spec_CountRelocations.f k t341).bind fun t345 => (some (t345, true))) else (some (0, false))) = some (r1, r2) := H
 have A3 := Aside0.mk A30
 clear A30
 by_cases c4 : t344 = true
 ·subst c4
  have H1 : ((spec_CountRelocations.f k t341).bind fun t345 => (some (t345, true))) = some (r1, r2) := by rw [if_pos rfl] at H; exact H
  clear H
  have H := H1
  clear H1
  replace H := Option.bind_eq_some_iff.mp H
  obtain ⟨t345, A50, H⟩ := H
  replace H : (some (t345, true)) = some (r1, r2) := H
  have A5 := Aside0.mk A50
  clear A50
  simp only [Option.some.injEq, Prod.mk.injEq] at H
  obtain ⟨rfl, rfl⟩ := H
  go_enter Tryd.func17, Tryd.ntmps17
  go_wp2_with (first | ((with_reducible refine gate_dst (N := 2) rfl ?_); refine box_event ?hg (N := 2) ?hd (cs := #[.slice A0_0 l0_0.length c0_0]) (t := 30) ?hr ?_; (case hd => rfl); (case hg => rfl); (case hr => first | (go_simp; done) | (go_simp; rfl)); intro gb340 hg w6 hbox hb; have n0_ := Aside0.mk (below_step (bel HB) hb); have n1_ := Aside0.mk (hbox); have n2_ := Aside0.mk ((by rw [hg]; exact (below_size (bel HB)) : w.heap.size ≤ gb340)); have n3_ := Aside0.mk ((by rw [hg]; exact (below_size (bel HB)) : w.heap.size ≤ gb340)); clear HB; have HB := n0_; have BK340 := n1_; have GW340 := n2_; have GE340 := n3_; clear n0_ n1_ n2_ n3_; clear hb hbox hg; have hcz7_0 : w6.cell? ⟨gb340, 0, none⟩ = some (.slice A0_0 l0_0.length c0_0) := (blk_cell BK340.out 0).trans rfl; have hfz7_0 := blk_frozen BK340.out 0) | ((with_reducible refine gate_callee (f := 6) rfl ?_); refine goesL_ (some 11) rfl rfl Tryd.func6 (by kernel_rfl) rfl #[.agg #[.slice A0_0 l0_0.length c0_0], .slice A1 l1.length c1] rfl gmp ?_; (with_reducible refine (spec_BestSteps.calls k _ _ l0_0 _ _ l1 t341 true _ ?side1 ?side2 ?side3 ?side4 A3.out).mono ?_); (case side1 => exact cdl (Kd.C_below HR0_0.out HB.out)); (case side2 => exact HC0_0.out); (case side3 => exact cdl (Kd.C_below HR1.out HB.out)); (case side4 => exact HC1.out); rintro e w8 ⟨v342, rfl, ho0, hb⟩; refine ⟨_, rfl, ?_⟩; have n0_ := Aside0.mk (Kd.R_lower ho0 (below_size (bel1 HB GE340))); have n1_ := Aside0.mk (blk_below (g := gb340) (o := .cells #[.slice A0_0 l0_0.length c0_0] 30 (0, 0)) (bkl BK340) hb); have n2_ := Aside0.mk (below_step (bel1 HB GE340) hb); clear BK340; clear HB; have HO343 := n0_; have BK340 := n1_; have HB := n2_; clear n0_ n1_ n2_; (try clear hb); (try clear hb2); (try clear hk); (try clear hi); (try clear ho0); obtain ⟨Ao9, co9, eo9⟩ := Kd.R_slice HO343.out; subst eo9) | ((with_reducible refine gate_callee (f := 28) rfl ?_); refine goesL_ (some 17) rfl rfl Tryd.func28 (by kernel_rfl) rfl #[.slice Ao9 t341.length co9] rfl gmp ?_; (with_reducible refine (spec_CountRelocations.calls k _ _ t341 t345 _ ?side1 ?side2 A5.out).mono ?_); (case side1 => repeat (first | exact (Kd.R_reads' HO343.out).2.2 | (with_reducible refine Kd.C_alloc ?_ _) | (with_reducible refine Kd.C_drewN ?_ _) | (with_reducible refine Kd.C_drew ?_))); (case side2 => exact (Kd.R_reads' HO343.out).2.1); rintro e w' ⟨rfl, ⟨nd, rfl⟩⟩; refine ⟨_, rfl, ?_⟩))
  go_ret2
  exact ⟨by first | rfl | (simp [errW_none, errW_some] <;> rfl) | (simp [*, errW_none, errW_some] <;> rfl), bel1 HB GE340⟩
 ·replace c4 := Bool.eq_false_iff.mpr c4
  subst c4
  have H1 : (some (0, false)) = some (r1, r2) := by rw [if_neg (show ¬ (false = true) by decide)] at H; exact H
  clear H
  have H := H1
  clear H1
  simp only [Option.some.injEq, Prod.mk.injEq] at H
  obtain ⟨rfl, rfl⟩ := H
  go_enter Tryd.func17, Tryd.ntmps17
  go_wp2_with (first | ((with_reducible refine gate_dst (N := 2) rfl ?_); refine box_event ?hg (N := 2) ?hd (cs := #[.slice A0_0 l0_0.length c0_0]) (t := 30) ?hr ?_; (case hd => rfl); (case hg => rfl); (case hr => first | (go_simp; done) | (go_simp; rfl)); intro gb340 hg w10 hbox hb; have n0_ := Aside0.mk (below_step (bel HB) hb); have n1_ := Aside0.mk (hbox); have n2_ := Aside0.mk ((by rw [hg]; exact (below_size (bel HB)) : w.heap.size ≤ gb340)); have n3_ := Aside0.mk ((by rw [hg]; exact (below_size (bel HB)) : w.heap.size ≤ gb340)); clear HB; have HB := n0_; have BK340 := n1_; have GW340 := n2_; have GE340 := n3_; clear n0_ n1_ n2_ n3_; clear hb hbox hg; have hcz11_0 : w10.cell? ⟨gb340, 0, none⟩ = some (.slice A0_0 l0_0.length c0_0) := (blk_cell BK340.out 0).trans rfl; have hfz11_0 := blk_frozen BK340.out 0) | ((with_reducible refine gate_callee (f := 6) rfl ?_); refine goesL_ (some 11) rfl rfl Tryd.func6 (by kernel_rfl) rfl #[.agg #[.slice A0_0 l0_0.length c0_0], .slice A1 l1.length c1] rfl gmp ?_; (with_reducible refine (spec_BestSteps.calls k _ _ l0_0 _ _ l1 t341 false _ ?side1 ?side2 ?side3 ?side4 A3.out).mono ?_); (case side1 => exact cdl (Kd.C_below HR0_0.out HB.out)); (case side2 => exact HC0_0.out); (case side3 => exact cdl (Kd.C_below HR1.out HB.out)); (case side4 => exact HC1.out); rintro e w12 ⟨v342, rfl, ho0, hb⟩; refine ⟨_, rfl, ?_⟩; have n0_ := Aside0.mk (Kd.R_lower ho0 (below_size (bel1 HB GE340))); have n1_ := Aside0.mk (blk_below (g := gb340) (o := .cells #[.slice A0_0 l0_0.length c0_0] 30 (0, 0)) (bkl BK340) hb); have n2_ := Aside0.mk (below_step (bel1 HB GE340) hb); clear BK340; clear HB; have HO343 := n0_; have BK340 := n1_; have HB := n2_; clear n0_ n1_ n2_; (try clear hb); (try clear hb2); (try clear hk); (try clear hi); (try clear ho0)))
  go_ret2
  exact ⟨by first | rfl | (simp [errW_none, errW_some] <;> rfl) | (simp [*, errW_none, errW_some] <;> rfl), bel1 HB GE340⟩

/-! ### impl_CountRelocations: function 29 -/
def impl_CountRelocations.l0 : Nat → Int → List (S47) → Int → Int → Option (Int)
 | 0, _, _, _, _ => none
 | k + 1, x3, x6, x7, x8 => if x8 < x7 then (if 0 ≤ x8 then (if x8 < (x6.length : Int) then (if ((rd_T47 x6 x8).f1) = (-1) then (impl_CountRelocations.l0 k x3 x6 x7 (wrap64 (x8 + 1))) else (impl_CountRelocations.l0 k (wrap64 (x3 + 1)) x6 x7 (wrap64 (x8 + 1)))) else (none)) else (none)) else (some x3)
def impl_CountRelocations.f (k : Nat) (l0 : List (S47)) : Option (Int) := impl_CountRelocations.l0 k 0 l0 (l0.length : Int) 0
theorem impl_CountRelocations.mono_l : ∀ k, (∀ y0 y1 y2 y3, LeO (impl_CountRelocations.l0 k y0 y1 y2 y3) (impl_CountRelocations.l0 (k + 1) y0 y1 y2 y3))
 | 0 => fun _ _ _ _ r h => by simp [impl_CountRelocations.l0] at h
 | k + 1 => by
  have ih0 := impl_CountRelocations.mono_l k
  ·intro y0 y1 y2 y3
   unfold impl_CountRelocations.l0
   repeat' first
   | (with_reducible exact ih0 _ _ _ _)
   | (with_reducible exact LeO.refl _)
   | (with_reducible exact LeO.none _)
   | (with_reducible refine LeO.ite ?_ ?_)
   | (with_reducible refine LeO.bind ?_ (fun _ => ?_))
   | exact ih0 _ _ _ _
   | exact LeO.none _
   | refine LeO.ite ?_ ?_
   | refine LeO.bind ?_ (fun _ => ?_)
theorem impl_CountRelocations.mono : ∀ a0 k, LeO (impl_CountRelocations.f k a0) (impl_CountRelocations.f (k + 1) a0) := by
 intro a0 k
 have ih0 := impl_CountRelocations.mono_l k
 unfold impl_CountRelocations.f
 repeat' first
   | (with_reducible exact ih0 _ _ _ _)
   | (with_reducible exact LeO.refl _)
   | (with_reducible exact LeO.none _)
   | (with_reducible refine LeO.ite ?_ ?_)
   | (with_reducible refine LeO.bind ?_ (fun _ => ?_))
   | exact ih0 _ _ _ _
   | exact LeO.none _
   | refine LeO.ite ?_ ?_
   | refine LeO.bind ?_ (fun _ => ?_)
set_option maxHeartbeats 8000000 in
set_option maxRecDepth 100000 in
theorem impl_CountRelocations.calls (k : Nat) (A0 : Option Addr) (c0 : Nat) (l0 : List (S47)) (r : Int) (w : World) (hr0 : Kd.C k47 w A0 l0.length l0) (hc0 : l0.length ≤ c0) (h : impl_CountRelocations.f k l0 = some r) :
  Calls Tryd.prog 29 #[.slice A0 l0.length c0] w fun e w' => e = .returned (.int .i64 r) ∧ Below w.heap.size w w' := by
 have hu47 := Tryd.underlying47
 have HR0 := Aside0.mk hr0
 have HC0 := Aside0.mk hc0
 clear hr0 hc0
 have HB := Aside0.mk (Below.refl w.heap.size w)
 have H : (impl_CountRelocations.l0 k 0 l0 (l0.length : Int) 0) = some r := h
 clear h
 have H' := Aside0.mk H
 clear H
 go_enter Tryd.func29, Tryd.ntmps29
 go_wp2
 go_loopg [3, 8] k (fun kq v3 v8 w' => ∃ (x3_1 : Int) (x8_1 : Int), v3 = .int .i64 x3_1 ∧ v8 = .int .i64 x8_1 ∧ Aside0 (impl_CountRelocations.l0 kq x3_1 l0 (l0.length : Int) x8_1 = some r) ∧ Aside0 (kq ≤ k) ∧ Aside0 (Below w.heap.size w w'))
 case atStart => exact ⟨(0), (0), (by first | rfl | (simp; done) | (simp [*]; done)), (by first | rfl | (simp; done) | (simp [*]; done)), H', ⟨Nat.le_refl _⟩, ⟨bel HB⟩⟩
 case round =>
  clear H'
  obtain ⟨x3_1, x8_1, rfl, rfl, HA, HK1, HB⟩ := hrel
  cases gk with
  | zero => exact absurd HA.out (by simp [impl_CountRelocations.l0])
  | succ k1 =>
   have H := HA.out
   clear HA
   simp only [impl_CountRelocations.l0] at H
   by_cases c2 : x8_1 < (l0.length : Int)
   ·rw [if_pos c2] at H
    have c2b0 : decide (x8_1 < (l0.length : Int)) = true := decide_eq_true c2
    clear c2
    by_cases c3 : 0 ≤ x8_1
    ·rw [if_pos c3] at H
     have c3b0 : decide (0 ≤ x8_1) = true := decide_eq_true c3
     clear c3
     by_cases c4 : x8_1 < (l0.length : Int)
     ·rw [if_pos c4] at H
      have c4b0 : decide (x8_1 < (l0.length : Int)) = true := decide_eq_true c4
      clear c4
      by_cases c5 : ((rd_T47 l0 x8_1).f1) = (-1)
      ·rw [if_pos c5] at H
       have c5b0 : (((rd_T47 l0 x8_1).f1) == (-1)) = true := beq_iff_eq.mpr c5
       have c5b1 : (((rd_T47 l0 x8_1).f1) != (-1)) = false := bne_eq_false_iff_eq.mpr c5
       clear c5
       have H' := Aside0.mk H
       clear H
       have p346 : 0 ≤ (x8_1 : Int) := oda
       have q346 : x8_1 < (l0.length : Int) := oda
       obtain ⟨ad346, e346, hx346_0, hx346_1⟩ := at_T47 HR0.out x8_1 p346 q346
       cases e346
       replace hx346_0 := cel HB hx346_0
       replace hx346_1 := cel HB hx346_1
       replace p346 := eq_true p346
       replace q346 := eq_true q346
       go_wp2_with (first | ((with_reducible refine gate_dst (N := 5) rfl ?_); refine box_event ?hg (N := 5) ?hd (cs := #[.int .i64 0, .int .i64 0]) (t := 47) ?hr ?_; (case hd => rfl); (case hg => rfl); (case hr => first | (go_simp; done) | (go_simp; rfl)); intro gb347 hg w6 hbox hb; have n0_ := Aside0.mk (below_step (bel HB) hb); have n1_ := Aside0.mk (hbox); have n2_ := Aside0.mk ((by rw [hg]; exact (below_size (bel HB)) : w.heap.size ≤ gb347)); have n3_ := Aside0.mk ((by rw [hg]; exact (below_size (bel HB)) : w.heap.size ≤ gb347)); clear HB; have HB := n0_; have BK347 := n1_; have GW347 := n2_; have GE347 := n3_; clear n0_ n1_ n2_ n3_; clear hb hbox hg; have hcz7_0 : w6.cell? ⟨gb347, 0, none⟩ = some (.int .i64 0) := (blk_cell BK347.out 0).trans rfl; have hcz7_1 : w6.cell? ⟨gb347, 1, none⟩ = some (.int .i64 0) := (blk_cell BK347.out 1).trans rfl; have hfz7_0 := blk_frozen BK347.out 0; have hfz7_1 := blk_frozen BK347.out 1))
       go_roundg k1
       case measure => have := HK1.out; omega
       case rel => exact ⟨(x3_1), (wrap64 (x8_1 + 1)), (by first | rfl | (simp; done) | (simp [*]; done)), (by first | rfl | (simp; done) | (simp [*]; done)), H', ⟨by have := HK1.out; omega⟩, ⟨bel1 HB GE347⟩⟩
      ·rw [if_neg c5] at H
       have c5b0 : (((rd_T47 l0 x8_1).f1) == (-1)) = false := beq_eq_false_iff_ne.mpr c5
       have c5b1 : (((rd_T47 l0 x8_1).f1) != (-1)) = true := bne_iff_ne.mpr c5
       have H' := Aside0.mk H
       clear H
       have p346 : 0 ≤ (x8_1 : Int) := oda
       have q346 : x8_1 < (l0.length : Int) := oda
       obtain ⟨ad346, e346, hx346_0, hx346_1⟩ := at_T47 HR0.out x8_1 p346 q346
       cases e346
       replace hx346_0 := cel HB hx346_0
       replace hx346_1 := cel HB hx346_1
       replace p346 := eq_true p346
       replace q346 := eq_true q346
       go_wp2_with (first | ((with_reducible refine gate_dst (N := 5) rfl ?_); refine box_event ?hg (N := 5) ?hd (cs := #[.int .i64 0, .int .i64 0]) (t := 47) ?hr ?_; (case hd => rfl); (case hg => rfl); (case hr => first | (go_simp; done) | (go_simp; rfl)); intro gb347 hg w8 hbox hb; have n0_ := Aside0.mk (below_step (bel HB) hb); have n1_ := Aside0.mk (hbox); have n2_ := Aside0.mk ((by rw [hg]; exact (below_size (bel HB)) : w.heap.size ≤ gb347)); have n3_ := Aside0.mk ((by rw [hg]; exact (below_size (bel HB)) : w.heap.size ≤ gb347)); clear HB; have HB := n0_; have BK347 := n1_; have GW347 := n2_; have GE347 := n3_; clear n0_ n1_ n2_ n3_; clear hb hbox hg; have hcz9_0 : w8.cell? ⟨gb347, 0, none⟩ = some (.int .i64 0) := (blk_cell BK347.out 0).trans rfl; have hcz9_1 : w8.cell? ⟨gb347, 1, none⟩ = some (.int .i64 0) := (blk_cell BK347.out 1).trans rfl; have hfz9_0 := blk_frozen BK347.out 0; have hfz9_1 := blk_frozen BK347.out 1))
       go_roundg k1
       case measure => have := HK1.out; omega
       case rel => exact ⟨(wrap64 (x3_1 + 1)), (wrap64 (x8_1 + 1)), (by first | rfl | (simp; done) | (simp [*]; done)), (by first | rfl | (simp; done) | (simp [*]; done)), H', ⟨by have := HK1.out; omega⟩, ⟨bel1 HB GE347⟩⟩
     ·rw [if_neg c4] at H
      exact absurd H (by simp)
    ·rw [if_neg c3] at H
     exact absurd H (by simp)
   ·rw [if_neg c2] at H
    have c2b0 : decide (x8_1 < (l0.length : Int)) = false := decide_eq_false c2
    clear c2
    obtain rfl := Option.some.inj H
    go_wp2
    go_ret
    exact ⟨by first | rfl | (simp [errW_none, errW_some] <;> rfl) | (simp [*, errW_none, errW_some] <;> rfl), bel HB⟩

/-! ### impl_FewestRelocations: function 18 -/
def impl_FewestRelocations.f (k : Nat) (l0_0 : List (List Int)) (l1 : List Int) : Option (Int × Bool) := (impl_isOrder.f k l0_0 l1).bind fun t349 => (if t349 = true then ((impl_bestSteps.f k l0_0 l1).bind fun bt350 => ((impl_CountRelocations.f k bt350.1).bind fun t354 => (some (t354, bt350.2)))) else (some (0, false)))
theorem impl_FewestRelocations.mono : ∀ a0 a1 k, LeO (impl_FewestRelocations.f k a0 a1) (impl_FewestRelocations.f (k + 1) a0 a1) := by
 intro a0 a1 k
 unfold impl_FewestRelocations.f
 repeat' first
   | (with_reducible exact impl_CountRelocations.mono _ _)
   | (with_reducible exact impl_bestSteps.mono _ _ _)
   | (with_reducible exact impl_isOrder.mono _ _ _)
   | (with_reducible exact LeO.refl _)
   | (with_reducible exact LeO.none _)
   | (with_reducible refine LeO.ite ?_ ?_)
   | (with_reducible refine LeO.bind ?_ (fun _ => ?_))
   | exact impl_CountRelocations.mono _ _
   | exact impl_bestSteps.mono _ _ _
   | exact impl_isOrder.mono _ _ _
   | exact LeO.none _
   | refine LeO.ite ?_ ?_
   | refine LeO.bind ?_ (fun _ => ?_)
set_option maxHeartbeats 8000000 in
set_option maxRecDepth 100000 in
theorem impl_FewestRelocations.calls (k : Nat) (A0_0 : Option Addr) (c0_0 : Nat) (l0_0 : List (List Int)) (A1 : Option Addr) (c1 : Nat) (l1 : List Int) (r1 : Int) (r2 : Bool) (w : World) (hr0_0 : Kd.C (Kd.slice 3 (Kd.int .i64)) w A0_0 l0_0.length l0_0) (hc0_0 : l0_0.length ≤ c0_0) (hr1 : Kd.C (Kd.int .i64) w A1 l1.length l1) (hc1 : l1.length ≤ c1) (h : impl_FewestRelocations.f k l0_0 l1 = some (r1, r2)) :
  Calls Tryd.prog 18 #[.agg #[.slice A0_0 l0_0.length c0_0], .slice A1 l1.length c1] w fun e w' => e = .returned (.tuple #[.int .i64 r1, .bool r2]) ∧ Below w.heap.size w w' := by
 have hu30 := Tryd.underlying30
 have HR0_0 := Aside0.mk hr0_0
 have HC0_0 := Aside0.mk hc0_0
 clear hr0_0 hc0_0
 have HR1 := Aside0.mk hr1
 have HC1 := Aside0.mk hc1
 clear hr1 hc1
 have HB := Aside0.mk (Below.refl w.heap.size w)
 have H : ((impl_isOrder.f k l0_0 l1).bind fun t349 => (if t349 = true then ((impl_bestSteps.f k l0_0 l1).bind fun bt350 => ((impl_CountRelocations.f k bt350.1).bind fun t354 => (some (t354, bt350.2)))) else (some (0, false)))) = some (r1, r2) := h
 clear h
 replace H := Option.bind_eq_some_iff.mp H
 obtain ⟨t349, A30, H⟩ := H
 replace H : (if t349 = true then ((impl_bestSteps.f k l0_0 l1).bind fun bt350 => ((impl_CountRelocations.f k bt350.1).bind fun t354 => (some (t354, bt350.2)))) else (some (0, false))) = some (r1, r2) := H
 have A3 := Aside0.mk A30
 clear A30
 by_cases c4 : t349 = true
 ·subst c4
  have H1 : ((impl_bestSteps.f k l0_0 l1).bind fun bt350 => ((impl_CountRelocations.f k bt350.1).bind fun t354 => (some (t354, bt350.2)))) = some (r1, r2) := by rw [if_pos rfl] at H; exact H
  clear H
  have H := H1
  clear H1
  replace H := Option.bind_eq_some_iff.mp H
  obtain ⟨⟨t350, t353⟩, A50, H⟩ := H
  replace H : ((impl_CountRelocations.f k t350).bind fun t354 => (some (t354, t353))) = some (r1, r2) := H
  have A5 := Aside0.mk A50
  clear A50
  replace H := Option.bind_eq_some_iff.mp H
  obtain ⟨t354, A60, H⟩ := H
  replace H : (some (t354, t353)) = some (r1, r2) := H
  have A6 := Aside0.mk A60
  clear A60
  simp only [Option.some.injEq, Prod.mk.injEq] at H
  obtain ⟨rfl, rfl⟩ := H
  go_enter Tryd.func18, Tryd.ntmps18
  go_wp2_with (first | ((with_reducible refine gate_dst (N := 2) rfl ?_); refine box_event ?hg (N := 2) ?hd (cs := #[.slice A0_0 l0_0.length c0_0]) (t := 30) ?hr ?_; (case hd => rfl); (case hg => rfl); (case hr => first | (go_simp; done) | (go_simp; rfl)); intro gb348 hg w7 hbox hb; have n0_ := Aside0.mk (below_step (bel HB) hb); have n1_ := Aside0.mk (hbox); have n2_ := Aside0.mk ((by rw [hg]; exact (below_size (bel HB)) : w.heap.size ≤ gb348)); have n3_ := Aside0.mk ((by rw [hg]; exact (below_size (bel HB)) : w.heap.size ≤ gb348)); clear HB; have HB := n0_; have BK348 := n1_; have GW348 := n2_; have GE348 := n3_; clear n0_ n1_ n2_ n3_; clear hb hbox hg; have hcz8_0 : w7.cell? ⟨gb348, 0, none⟩ = some (.slice A0_0 l0_0.length c0_0) := (blk_cell BK348.out 0).trans rfl; have hfz8_0 := blk_frozen BK348.out 0) | ((with_reducible refine gate_callee (f := 23) rfl ?_); refine goesL_ (some 10) rfl rfl Tryd.func23 (by kernel_rfl) rfl #[.agg #[.slice A0_0 l0_0.length c0_0], .slice A1 l1.length c1] rfl gmp ?_; (with_reducible refine (impl_isOrder.calls k _ _ l0_0 _ _ l1 true _ ?side1 ?side2 ?side3 ?side4 A3.out).mono ?_); (case side1 => exact cdl (Kd.C_below HR0_0.out HB.out)); (case side2 => exact HC0_0.out); (case side3 => exact cdl (Kd.C_below HR1.out HB.out)); (case side4 => exact HC1.out); rintro e w9 ⟨rfl, hb⟩; refine ⟨_, rfl, ?_⟩; have n0_ := Aside0.mk (blk_below (g := gb348) (o := .cells #[.slice A0_0 l0_0.length c0_0] 30 (0, 0)) (bkl BK348) hb); have n1_ := Aside0.mk (below_step (bel1 HB GE348) hb); clear BK348; clear HB; have BK348 := n0_; have HB := n1_; clear n0_ n1_; (try clear hb); (try clear hb2); (try clear hk); (try clear hi); have hcz10_0 : w9.cell? ⟨gb348, 0, none⟩ = some (.slice A0_0 l0_0.length c0_0) := (blk_cell BK348.out 0).trans rfl; have hfz10_0 := blk_frozen BK348.out 0) | ((with_reducible refine gate_callee (f := 24) rfl ?_); refine goesL_ (some 15) rfl rfl Tryd.func24 (by kernel_rfl) rfl #[.agg #[.slice A0_0 l0_0.length c0_0], .slice A1 l1.length c1] rfl gmp ?_; (with_reducible refine (impl_bestSteps.calls k _ _ l0_0 _ _ l1 t350 t353 _ ?side1 ?side2 ?side3 ?side4 A5.out).mono ?_); (case side1 => exact cdl (Kd.C_below HR0_0.out HB.out)); (case side2 => exact HC0_0.out); (case side3 => exact cdl (Kd.C_below HR1.out HB.out)); (case side4 => exact HC1.out); rintro e w11 ⟨v351, rfl, ho0, hb⟩; refine ⟨_, rfl, ?_⟩; have n0_ := Aside0.mk (Kd.R_lower ho0 (below_size (bel1 HB GE348))); have n1_ := Aside0.mk (blk_below (g := gb348) (o := .cells #[.slice A0_0 l0_0.length c0_0] 30 (0, 0)) (bkl BK348) hb); have n2_ := Aside0.mk (below_step (bel1 HB GE348) hb); clear BK348; clear HB; have HO352 := n0_; have BK348 := n1_; have HB := n2_; clear n0_ n1_ n2_; (try clear hb); (try clear hb2); (try clear hk); (try clear hi); (try clear ho0); obtain ⟨Ao12, co12, eo12⟩ := Kd.R_slice HO352.out; subst eo12) | ((with_reducible refine gate_callee (f := 29) rfl ?_); refine goesL_ (some 19) rfl rfl Tryd.func29 (by kernel_rfl) rfl #[.slice Ao12 t350.length co12] rfl gmp ?_; (with_reducible refine (impl_CountRelocations.calls k _ _ t350 t354 _ ?side1 ?side2 A6.out).mono ?_); (case side1 => repeat (first | exact (Kd.R_reads' HO352.out).2.2 | (with_reducible refine Kd.C_alloc ?_ _) | (with_reducible refine Kd.C_drewN ?_ _) | (with_reducible refine Kd.C_drew ?_))); (case side2 => exact (Kd.R_reads' HO352.out).2.1); rintro e w13 ⟨rfl, hb⟩; refine ⟨_, rfl, ?_⟩; have n0_ := Aside0.mk (Kd.R_below (rdl HO352) hb); have n1_ := Aside0.mk (blk_below (g := gb348) (o := .cells #[.slice A0_0 l0_0.length c0_0] 30 (0, 0)) (bkl BK348) hb); have n2_ := Aside0.mk (below_step (bel1 HB GE348) hb); clear HO352; clear BK348; clear HB; have HO352 := n0_; have BK348 := n1_; have HB := n2_; clear n0_ n1_ n2_; (try clear hb); (try clear hb2); (try clear hk); (try clear hi)))
  go_ret2
  exact ⟨by first | rfl | (simp [errW_none, errW_some] <;> rfl) | (simp [*, errW_none, errW_some] <;> rfl), bel1 HB GE348⟩
 ·replace c4 := Bool.eq_false_iff.mpr c4
  subst c4
  have H1 : (some (0, false)) = some (r1, r2) := by rw [if_neg (show ¬ (false = true) by decide)] at H; exact H
  clear H
  have H := H1
  clear H1
  simp only [Option.some.injEq, Prod.mk.injEq] at H
  obtain ⟨rfl, rfl⟩ := H
  go_enter Tryd.func18, Tryd.ntmps18
  go_wp2_with (first | ((with_reducible refine gate_dst (N := 2) rfl ?_); refine box_event ?hg (N := 2) ?hd (cs := #[.slice A0_0 l0_0.length c0_0]) (t := 30) ?hr ?_; (case hd => rfl); (case hg => rfl); (case hr => first | (go_simp; done) | (go_simp; rfl)); intro gb348 hg w14 hbox hb; have n0_ := Aside0.mk (below_step (bel HB) hb); have n1_ := Aside0.mk (hbox); have n2_ := Aside0.mk ((by rw [hg]; exact (below_size (bel HB)) : w.heap.size ≤ gb348)); have n3_ := Aside0.mk ((by rw [hg]; exact (below_size (bel HB)) : w.heap.size ≤ gb348)); clear HB; have HB := n0_; have BK348 := n1_; have GW348 := n2_; have GE348 := n3_; clear n0_ n1_ n2_ n3_; clear hb hbox hg; have hcz15_0 : w14.cell? ⟨gb348, 0, none⟩ = some (.slice A0_0 l0_0.length c0_0) := (blk_cell BK348.out 0).trans rfl; have hfz15_0 := blk_frozen BK348.out 0) | ((with_reducible refine gate_callee (f := 23) rfl ?_); refine goesL_ (some 10) rfl rfl Tryd.func23 (by kernel_rfl) rfl #[.agg #[.slice A0_0 l0_0.length c0_0], .slice A1 l1.length c1] rfl gmp ?_; (with_reducible refine (impl_isOrder.calls k _ _ l0_0 _ _ l1 false _ ?side1 ?side2 ?side3 ?side4 A3.out).mono ?_); (case side1 => exact cdl (Kd.C_below HR0_0.out HB.out)); (case side2 => exact HC0_0.out); (case side3 => exact cdl (Kd.C_below HR1.out HB.out)); (case side4 => exact HC1.out); rintro e w16 ⟨rfl, hb⟩; refine ⟨_, rfl, ?_⟩; have n0_ := Aside0.mk (blk_below (g := gb348) (o := .cells #[.slice A0_0 l0_0.length c0_0] 30 (0, 0)) (bkl BK348) hb); have n1_ := Aside0.mk (below_step (bel1 HB GE348) hb); clear BK348; clear HB; have BK348 := n0_; have HB := n1_; clear n0_ n1_; (try clear hb); (try clear hb2); (try clear hk); (try clear hi)))
  go_ret2
  exact ⟨by first | rfl | (simp [errW_none, errW_some] <;> rfl) | (simp [*, errW_none, errW_some] <;> rfl), bel1 HB GE348⟩

/-! ### laws_FnExactFewestRelocations: function 4 -/
def laws_FnExactFewestRelocations.f (k : Nat) (l0_0 : List (List Int)) (l1 : List Int) : Option (Bool) := if (l1.length : Int) > 1048576 then (some true) else ((laws_szYard.f k l0_0 1048576).bind fun t356 => (if t356 < 0 then (some true) else ((laws_toYard.f k l0_0).bind fun t357 => ((laws_toIntS.f k l1).bind fun t360 => ((spec_FewestRelocations.f k t357 t360).bind fun bt363 => ((laws_toYard.f k l0_0).bind fun t365 => ((laws_toIntS.f k l1).bind fun t369 => ((impl_FewestRelocations.f k t365 t369).bind fun bt372 => (if bt372.1 = bt363.1 then (if (bt372.2 != bt363.2) = true then (none) else ((laws_toYard.f k l0_0).bind fun t374 => ((laws_eqYard.f k t365 t374).bind fun t377 => (if t377 = true then ((laws_toIntS.f k l1).bind fun t378 => ((laws_eqIntS.f k t369 t378).bind fun t381 => (if t381 = true then (some true) else (none)))) else (none))))) else (none))))))))))
theorem laws_FnExactFewestRelocations.mono : ∀ a0 a1 k, LeO (laws_FnExactFewestRelocations.f k a0 a1) (laws_FnExactFewestRelocations.f (k + 1) a0 a1) := by
 intro a0 a1 k
 unfold laws_FnExactFewestRelocations.f
 repeat' first
   | (with_reducible exact impl_FewestRelocations.mono _ _ _)
   | (with_reducible exact laws_eqIntS.mono _ _ _)
   | (with_reducible exact laws_eqYard.mono _ _ _)
   | (with_reducible exact laws_szYard.mono _ _ _)
   | (with_reducible exact laws_toIntS.mono _ _)
   | (with_reducible exact laws_toYard.mono _ _)
   | (with_reducible exact spec_FewestRelocations.mono _ _ _)
   | (with_reducible exact LeO.refl _)
   | (with_reducible exact LeO.none _)
   | (with_reducible refine LeO.ite ?_ ?_)
   | (with_reducible refine LeO.bind ?_ (fun _ => ?_))
   | exact impl_FewestRelocations.mono _ _ _
   | exact laws_eqIntS.mono _ _ _
   | exact laws_eqYard.mono _ _ _
   | exact laws_szYard.mono _ _ _
   | exact laws_toIntS.mono _ _
   | exact laws_toYard.mono _ _
   | exact spec_FewestRelocations.mono _ _ _
   | exact LeO.none _
   | refine LeO.ite ?_ ?_
   | refine LeO.bind ?_ (fun _ => ?_)
set_option maxHeartbeats 8000000 in
set_option maxRecDepth 100000 in
theorem laws_FnExactFewestRelocations.calls (k : Nat) (A0_0 : Option Addr) (c0_0 : Nat) (l0_0 : List (List Int)) (A1 : Option Addr) (c1 : Nat) (l1 : List Int) (r : Bool) (w : World) (hr0_0 : Kd.C (Kd.slice 3 (Kd.int .i64)) w A0_0 l0_0.length l0_0) (hc0_0 : l0_0.length ≤ c0_0) (hr1 : Kd.C (Kd.int .i64) w A1 l1.length l1) (hc1 : l1.length ≤ c1) (h : laws_FnExactFewestRelocations.f k l0_0 l1 = some r) :
  Calls Tryd.prog 4 #[.agg #[.slice A0_0 l0_0.length c0_0], .slice A1 l1.length c1] w fun e w' => e = .returned (.bool r) ∧ Below w.heap.size w w' := by
 have hu24 := Tryd.underlying24
 have hu30 := Tryd.underlying30
 have HR0_0 := Aside0.mk hr0_0
 have HC0_0 := Aside0.mk hc0_0
 clear hr0_0 hc0_0
 have HR1 := Aside0.mk hr1
 have HC1 := Aside0.mk hc1
 clear hr1 hc1
 have HB := Aside0.mk (Below.refl w.heap.size w)
 have H : (if (l1.length : Int) > 1048576 then (some true) else ((laws_szYard.f k l0_0 1048576).bind fun t356 => (if t356 < 0 then (some true) else ((laws_toYard.f k l0_0).bind fun t357 => ((laws_toIntS.f k l1).bind fun t360 => ((spec_FewestRelocations.f k t357 t360).bind fun bt363 => ((laws_toYard.f k l0_0).bind fun t365 => ((laws_toIntS.f k l1).bind fun t369 => ((impl_FewestRelocations.f k t365 t369).bind fun bt372 => (if bt372.1 = bt363.1 then (if (bt372.2 != bt363.2) = true then (none) else ((laws_toYard.f k l0_0).bind fun t374 => ((laws_eqYard.f k t365 t374).bind fun t377 => (if t377 = true then ((laws_toIntS.f k l1).bind fun t378 => ((laws_eqIntS.f k t369 t378).bind fun t381 => (if t381 = true then (some true) else (none)))) else (none))))) else (none))))))))))) = some r := h
 clear h
 by_cases c3 : (l1.length : Int) > 1048576
 ·rw [if_pos c3] at H
  have c3b0 : decide (1048576 < (l1.length : Int)) = true := decide_eq_true c3
  have c3b1 : decide (1048576 < l1.length) = true := decide_eq_true (by omega)
  clear c3
  obtain rfl := Option.some.inj H
  go_enter Tryd.func4, Tryd.ntmps4
  go_wp2_with (first | ((with_reducible refine gate_dst (N := 2) rfl ?_); refine box_event ?hg (N := 2) ?hd (cs := #[.slice A0_0 l0_0.length c0_0]) (t := 24) ?hr ?_; (case hd => rfl); (case hg => rfl); (case hr => first | (go_simp; done) | (go_simp; rfl)); intro gb355 hg w4 hbox hb; have n0_ := Aside0.mk (below_step (bel HB) hb); have n1_ := Aside0.mk (hbox); have n2_ := Aside0.mk ((by rw [hg]; exact (below_size (bel HB)) : w.heap.size ≤ gb355)); have n3_ := Aside0.mk ((by rw [hg]; exact (below_size (bel HB)) : w.heap.size ≤ gb355)); clear HB; have HB := n0_; have BK355 := n1_; have GW355 := n2_; have GE355 := n3_; clear n0_ n1_ n2_ n3_; clear hb hbox hg))
  go_ret
  exact ⟨by first | rfl | (simp [errW_none, errW_some] <;> rfl) | (simp [*, errW_none, errW_some] <;> rfl), bel1 HB GE355⟩
 ·rw [if_neg c3] at H
  have c3b0 : decide (1048576 < (l1.length : Int)) = false := decide_eq_false c3
  have c3b1 : decide (1048576 < l1.length) = false := decide_eq_false (by omega)
  clear c3
  replace H := Option.bind_eq_some_iff.mp H
  obtain ⟨t356, A50, H⟩ := H
  replace H : (if t356 < 0 then (some true) else ((laws_toYard.f k l0_0).bind fun t357 => ((laws_toIntS.f k l1).bind fun t360 => ((spec_FewestRelocations.f k t357 t360).bind fun bt363 => ((laws_toYard.f k l0_0).bind fun t365 => ((laws_toIntS.f k l1).bind fun t369 => ((impl_FewestRelocations.f k t365 t369).bind fun bt372 => (if bt372.1 = bt363.1 then (if (bt372.2 != bt363.2) = true then (none) else ((laws_toYard.f k l0_0).bind fun t374 => ((laws_eqYard.f k t365 t374).bind fun t377 => (if t377 = true then ((laws_toIntS.f k l1).bind fun t378 => ((laws_eqIntS.f k t369 t378).bind fun t381 => (if t381 = true then (some true) else (none)))) else (none))))) else (none))))))))) = some r := H
  have A5 := Aside0.mk A50
  clear A50
  by_cases c6 : t356 < 0
  ·rw [if_pos c6] at H
   have c6b0 : decide (t356 < 0) = true := decide_eq_true c6
   clear c6
   obtain rfl := Option.some.inj H
   go_enter Tryd.func4, Tryd.ntmps4
   go_wp2_with (first | ((with_reducible refine gate_dst (N := 2) rfl ?_); refine box_event ?hg (N := 2) ?hd (cs := #[.slice A0_0 l0_0.length c0_0]) (t := 24) ?hr ?_; (case hd => rfl); (case hg => rfl); (case hr => first | (go_simp; done) | (go_simp; rfl)); intro gb355 hg w7 hbox hb; have n0_ := Aside0.mk (below_step (bel HB) hb); have n1_ := Aside0.mk (hbox); have n2_ := Aside0.mk ((by rw [hg]; exact (below_size (bel HB)) : w.heap.size ≤ gb355)); have n3_ := Aside0.mk ((by rw [hg]; exact (below_size (bel HB)) : w.heap.size ≤ gb355)); clear HB; have HB := n0_; have BK355 := n1_; have GW355 := n2_; have GE355 := n3_; clear n0_ n1_ n2_ n3_; clear hb hbox hg; have hcz8_0 : w7.cell? ⟨gb355, 0, none⟩ = some (.slice A0_0 l0_0.length c0_0) := (blk_cell BK355.out 0).trans rfl; have hfz8_0 := blk_frozen BK355.out 0) | ((with_reducible refine gate_callee (f := 5) rfl ?_); refine goesL_ (some 17) rfl rfl Tryd.func5 (by kernel_rfl) rfl #[.agg #[.slice A0_0 l0_0.length c0_0], .int .i64 1048576] rfl gmp ?_; (with_reducible refine (laws_szYard.calls k _ _ l0_0 1048576 t356 _ ?side1 ?side2 A5.out).mono ?_); (case side1 => exact cdl (Kd.C_below HR0_0.out HB.out)); (case side2 => exact HC0_0.out); rintro e w9 ⟨rfl, hb⟩; refine ⟨_, rfl, ?_⟩; have n0_ := Aside0.mk (blk_below (g := gb355) (o := .cells #[.slice A0_0 l0_0.length c0_0] 24 (0, 0)) (bkl BK355) hb); have n1_ := Aside0.mk (below_step (bel1 HB GE355) hb); clear BK355; clear HB; have BK355 := n0_; have HB := n1_; clear n0_ n1_; (try clear hb); (try clear hb2); (try clear hk); (try clear hi)))
   go_ret
   exact ⟨by first | rfl | (simp [errW_none, errW_some] <;> rfl) | (simp [*, errW_none, errW_some] <;> rfl), bel1 HB GE355⟩
  ·rw [if_neg c6] at H
   have c6b0 : decide (t356 < 0) = false := decide_eq_false c6
   clear c6
   replace H := Option.bind_eq_some_iff.mp H
   obtain ⟨t357, A100, H⟩ := H
   replace H : ((laws_toIntS.f k l1).bind fun t360 => ((spec_FewestRelocations.f k t357 t360).bind fun bt363 => ((laws_toYard.f k l0_0).bind fun t365 => ((laws_toIntS.f k l1).bind fun t369 => ((impl_FewestRelocations.f k t365 t369).bind fun bt372 => (if bt372.1 = bt363.1 then (if (bt372.2 != bt363.2) = true then (none) else ((laws_toYard.f k l0_0).bind fun t374 => ((laws_eqYard.f k t365 t374).bind fun t377 => (if t377 = true then ((laws_toIntS.f k l1).bind fun t378 => ((laws_eqIntS.f k t369 t378).bind fun t381 => (if t381 = true then (some true) else (none)))) else (none))))) else (none))))))) = some r := H
   have A10 := Aside0.mk A100
   clear A100
   replace H := Option.bind_eq_some_iff.mp H
   obtain ⟨t360, A110, H⟩ := H
   replace H : ((spec_FewestRelocations.f k t357 t360).bind fun bt363 => ((laws_toYard.f k l0_0).bind fun t365 => ((laws_toIntS.f k l1).bind fun t369 => ((impl_FewestRelocations.f k t365 t369).bind fun bt372 => (if bt372.1 = bt363.1 then (if (bt372.2 != bt363.2) = true then (none) else ((laws_toYard.f k l0_0).bind fun t374 => ((laws_eqYard.f k t365 t374).bind fun t377 => (if t377 = true then ((laws_toIntS.f k l1).bind fun t378 => ((laws_eqIntS.f k t369 t378).bind fun t381 => (if t381 = true then (some true) else (none)))) else (none))))) else (none)))))) = some r := H
   have A11 := Aside0.mk A110
   clear A110
   replace H := Option.bind_eq_some_iff.mp H
   obtain ⟨⟨t363, t364⟩, A120, H⟩ := H
   replace H : ((laws_toYard.f k l0_0).bind fun t365 => ((laws_toIntS.f k l1).bind fun t369 => ((impl_FewestRelocations.f k t365 t369).bind fun bt372 => (if bt372.1 = t363 then (if (bt372.2 != t364) = true then (none) else ((laws_toYard.f k l0_0).bind fun t374 => ((laws_eqYard.f k t365 t374).bind fun t377 => (if t377 = true then ((laws_toIntS.f k l1).bind fun t378 => ((laws_eqIntS.f k t369 t378).bind fun t381 => (if t381 = true then (some true) else (none)))) else (none))))) else (none))))) = some r := H
   have A12 := Aside0.mk A120
   clear A120
   replace H := Option.bind_eq_some_iff.mp H
   obtain ⟨t365, A130, H⟩ := H
   replace H : ((laws_toIntS.f k l1).bind fun t369 => ((impl_FewestRelocations.f k t365 t369).bind fun bt372 => (if bt372.1 = t363 then (if (bt372.2 != t364) = true then (none) else ((laws_toYard.f k l0_0).bind fun t374 => ((laws_eqYard.f k t365 t374).bind fun t377 => (if t377 = true then ((laws_toIntS.f k l1).bind fun t378 => ((laws_eqIntS.f k t369 t378).bind fun t381 => (if t381 = true then (some true) else (none)))) else (none))))) else (none)))) = some r := H
   have A13 := Aside0.mk A130
   clear A130
   replace H := Option.bind_eq_some_iff.mp H
   obtain ⟨t369, A140, H⟩ := H
   replace H : ((impl_FewestRelocations.f k t365 t369).bind fun bt372 => (if bt372.1 = t363 then (if (bt372.2 != t364) = true then (none) else ((laws_toYard.f k l0_0).bind fun t374 => ((laws_eqYard.f k t365 t374).bind fun t377 => (if t377 = true then ((laws_toIntS.f k l1).bind fun t378 => ((laws_eqIntS.f k t369 t378).bind fun t381 => (if t381 = true then (some true) else (none)))) else (none))))) else (none))) = some r := H
   have A14 := Aside0.mk A140
   clear A140
   replace H := Option.bind_eq_some_iff.mp H
   obtain ⟨⟨t372, t373⟩, A150, H⟩ := H
   replace H : (if t372 = t363 then (if (t373 != t364) = true then (none) else ((laws_toYard.f k l0_0).bind fun t374 => ((laws_eqYard.f k t365 t374).bind fun t377 => (if t377 = true then ((laws_toIntS.f k l1).bind fun t378 => ((laws_eqIntS.f k t369 t378).bind fun t381 => (if t381 = true then (some true) else (none)))) else (none))))) else (none)) = some r := H
   have A15 := Aside0.mk A150
   clear A150
   by_cases c16 : t372 = t363
   ·rw [if_pos c16] at H
    have c16b0 : (t372 == t363) = true := beq_iff_eq.mpr c16
    have c16b1 : (t372 != t363) = false := bne_eq_false_iff_eq.mpr c16
    clear c16
    by_cases c17 : (t373 != t364) = true
    ·rw [if_pos c17] at H
     exact absurd H (by simp)
    ·rw [if_neg c17] at H
     have c17b0 : (t373 != t364) = false := by simpa using c17
     (try (have c17b1 : decide (t373 = t364) = true := by simpa using c17))
     (try (have c17b2 : (t373 == t364) = true := by simpa using c17))
     clear c17
     replace H := Option.bind_eq_some_iff.mp H
     obtain ⟨t374, A180, H⟩ := H
     replace H : ((laws_eqYard.f k t365 t374).bind fun t377 => (if t377 = true then ((laws_toIntS.f k l1).bind fun t378 => ((laws_eqIntS.f k t369 t378).bind fun t381 => (if t381 = true then (some true) else (none)))) else (none))) = some r := H
     have A18 := Aside0.mk A180
     clear A180
     replace H := Option.bind_eq_some_iff.mp H
     obtain ⟨t377, A190, H⟩ := H
     replace H : (if t377 = true then ((laws_toIntS.f k l1).bind fun t378 => ((laws_eqIntS.f k t369 t378).bind fun t381 => (if t381 = true then (some true) else (none)))) else (none)) = some r := H
     have A19 := Aside0.mk A190
     clear A190
     by_cases c20 : t377 = true
     ·subst c20
      have H1 : ((laws_toIntS.f k l1).bind fun t378 => ((laws_eqIntS.f k t369 t378).bind fun t381 => (if t381 = true then (some true) else (none)))) = some r := by rw [if_pos rfl] at H; exact H
      clear H
      have H := H1
      clear H1
      replace H := Option.bind_eq_some_iff.mp H
      obtain ⟨t378, A210, H⟩ := H
      replace H : ((laws_eqIntS.f k t369 t378).bind fun t381 => (if t381 = true then (some true) else (none))) = some r := H
      have A21 := Aside0.mk A210
      clear A210
      replace H := Option.bind_eq_some_iff.mp H
      obtain ⟨t381, A220, H⟩ := H
      replace H : (if t381 = true then (some true) else (none)) = some r := H
      have A22 := Aside0.mk A220
      clear A220
      by_cases c23 : t381 = true
      ·subst c23
       have H1 : (some true) = some r := by rw [if_pos rfl] at H; exact H
       clear H
       have H := H1
       clear H1
       obtain rfl := Option.some.inj H
       go_enter Tryd.func4, Tryd.ntmps4
       try go_wp2_with (first | ((with_reducible refine gate_dst (N := 2) rfl ?_); refine box_event ?hg (N := 2) ?hd (cs := #[.slice A0_0 l0_0.length c0_0]) (t := 24) ?hr ?_; (case hd => rfl); (case hg => rfl); (case hr => first | (go_simp; done) | (go_simp; rfl)); intro gb355 hg w24 hbox hb; have n0_ := Aside0.mk (below_step (bel HB) hb); have n1_ := Aside0.mk (hbox); have n2_ := Aside0.mk ((by rw [hg]; exact (below_size (bel HB)) : w.heap.size ≤ gb355)); have n3_ := Aside0.mk ((by rw [hg]; exact (below_size (bel HB)) : w.heap.size ≤ gb355)); clear HB; have HB := n0_; have BK355 := n1_; have GW355 := n2_; have GE355 := n3_; clear n0_ n1_ n2_ n3_; clear hb hbox hg; have hcz25_0 : w24.cell? ⟨gb355, 0, none⟩ = some (.slice A0_0 l0_0.length c0_0) := (blk_cell BK355.out 0).trans rfl; have hfz25_0 := blk_frozen BK355.out 0) | ((with_reducible refine gate_callee (f := 5) rfl ?_); refine goesL_ (some 17) rfl rfl Tryd.func5 (by kernel_rfl) rfl #[.agg #[.slice A0_0 l0_0.length c0_0], .int .i64 1048576] rfl gmp ?_; (with_reducible refine (laws_szYard.calls k _ _ l0_0 1048576 t356 _ ?side1 ?side2 A5.out).mono ?_); (case side1 => exact cdl (Kd.C_below HR0_0.out HB.out)); (case side2 => exact HC0_0.out); rintro e w26 ⟨rfl, hb⟩; refine ⟨_, rfl, ?_⟩; have n0_ := Aside0.mk (blk_below (g := gb355) (o := .cells #[.slice A0_0 l0_0.length c0_0] 24 (0, 0)) (bkl BK355) hb); have n1_ := Aside0.mk (below_step (bel1 HB GE355) hb); clear BK355; clear HB; have BK355 := n0_; have HB := n1_; clear n0_ n1_; (try clear hb); (try clear hb2); (try clear hk); (try clear hi); have hcz27_0 : w26.cell? ⟨gb355, 0, none⟩ = some (.slice A0_0 l0_0.length c0_0) := (blk_cell BK355.out 0).trans rfl; have hfz27_0 := blk_frozen BK355.out 0) | ((with_reducible refine gate_callee (f := 7) rfl ?_); refine goesL_ (some 22) rfl rfl Tryd.func7 (by kernel_rfl) rfl #[.agg #[.slice A0_0 l0_0.length c0_0]] rfl gmp ?_; (with_reducible refine (laws_toYard.calls k _ _ l0_0 t357 _ ?side1 ?side2 A10.out).mono ?_); (case side1 => exact cdl (Kd.C_below HR0_0.out HB.out)); (case side2 => exact HC0_0.out); rintro e w28 ⟨v358, rfl, ho0, hb⟩; refine ⟨_, rfl, ?_⟩; have n0_ := Aside0.mk (Kd.S_lower ho0 (below_size (bel1 HB GE355))); have n1_ := Aside0.mk (blk_below (g := gb355) (o := .cells #[.slice A0_0 l0_0.length c0_0] 24 (0, 0)) (bkl BK355) hb); have n2_ := Aside0.mk (below_step (bel1 HB GE355) hb); clear BK355; clear HB; have HO359 := n0_; have BK355 := n1_; have HB := n2_; clear n0_ n1_ n2_; (try clear hb); (try clear hb2); (try clear hk); (try clear hi); (try clear ho0)) | ((with_reducible refine gate_callee (f := 8) rfl ?_); refine goesL_ (some 24) rfl rfl Tryd.func8 (by kernel_rfl) rfl #[.slice A1 l1.length c1] rfl gmp ?_; (with_reducible refine (laws_toIntS.calls k _ _ l1 t360 _ ?side1 ?side2 A11.out).mono ?_); (case side1 => exact cdl (Kd.C_below HR1.out HB.out)); (case side2 => exact HC1.out); rintro e w29 ⟨v361, rfl, ho0, hb⟩; refine ⟨_, rfl, ?_⟩; have n0_ := Aside0.mk (Kd.S_elder' (sdl HO359) (Kd.R_base ho0) hb); have n1_ := Aside0.mk (Kd.R_lower ho0 (below_size (bel1 HB GE355))); have n2_ := Aside0.mk (blk_below (g := gb355) (o := .cells #[.slice A0_0 l0_0.length c0_0] 24 (0, 0)) (bkl BK355) hb); have n3_ := Aside0.mk (below_step (bel1 HB GE355) hb); clear HO359; clear BK355; clear HB; have HO359 := n0_; have HO362 := n1_; have BK355 := n2_; have HB := n3_; clear n0_ n1_ n2_ n3_; (try clear hb); (try clear hb2); (try clear hk); (try clear hi); (try clear ho0); obtain ⟨Ao30, co30, eo30⟩ := Kd.S_slice HO359.out; subst eo30; obtain ⟨Ao31, co31, eo31⟩ := Kd.R_slice HO362.out; subst eo31) | ((with_reducible refine gate_callee (f := 17) rfl ?_); refine goesL_ (some 25) rfl rfl Tryd.func17 (by kernel_rfl) rfl #[.agg #[.slice Ao30 t357.length co30], .slice Ao31 t360.length co31] rfl gmp ?_; (with_reducible refine (spec_FewestRelocations.calls k _ _ t357 _ _ t360 t363 t364 _ ?side1 ?side2 ?side3 ?side4 A12.out).mono ?_); (case side1 => repeat (first | exact (Kd.S_reads' HO359.out).2.2 | (with_reducible refine Kd.C_alloc ?_ _) | (with_reducible refine Kd.C_drewN ?_ _) | (with_reducible refine Kd.C_drew ?_))); (case side2 => exact (Kd.S_reads' HO359.out).2.1); (case side3 => repeat (first | exact (Kd.R_reads' HO362.out).2.2 | (with_reducible refine Kd.C_alloc ?_ _) | (with_reducible refine Kd.C_drewN ?_ _) | (with_reducible refine Kd.C_drew ?_))); (case side4 => exact (Kd.R_reads' HO362.out).2.1); rintro e w32 ⟨rfl, hb⟩; refine ⟨_, rfl, ?_⟩; have n0_ := Aside0.mk (Kd.S_below (sdl HO359) hb); have n1_ := Aside0.mk (Kd.R_below (rdl HO362) hb); have n2_ := Aside0.mk (blk_below (g := gb355) (o := .cells #[.slice A0_0 l0_0.length c0_0] 24 (0, 0)) (bkl BK355) hb); have n3_ := Aside0.mk (below_step (bel1 HB GE355) hb); clear HO359; clear HO362; clear BK355; clear HB; have HO359 := n0_; have HO362 := n1_; have BK355 := n2_; have HB := n3_; clear n0_ n1_ n2_ n3_; (try clear hb); (try clear hb2); (try clear hk); (try clear hi); have hcz33_0 : w32.cell? ⟨gb355, 0, none⟩ = some (.slice A0_0 l0_0.length c0_0) := (blk_cell BK355.out 0).trans rfl; have hfz33_0 := blk_frozen BK355.out 0) | ((with_reducible refine gate_callee (f := 7) rfl ?_); refine goesL_ (some 29) rfl rfl Tryd.func7 (by kernel_rfl) rfl #[.agg #[.slice A0_0 l0_0.length c0_0]] rfl gmp ?_; (with_reducible refine (laws_toYard.calls k _ _ l0_0 t365 _ ?side1 ?side2 A13.out).mono ?_); (case side1 => exact cdl (Kd.C_below HR0_0.out HB.out)); (case side2 => exact HC0_0.out); rintro e w34 ⟨v366, rfl, ho0, hb⟩; refine ⟨_, rfl, ?_⟩; have n0_ := Aside0.mk (Kd.S_elder' (sdl HO359) (Kd.S_base ho0) hb); have n1_ := Aside0.mk (Kd.R_below (rdl HO362) hb); have n2_ := Aside0.mk (Kd.S_lower (Kd.S_new' (Kd.S_new' ho0 (Kd.S_lt (sdl HO359))) (Kd.R_lt (rdl HO362))) (below_size (bel1 HB GE355))); have n3_ := Aside0.mk (blk_below (g := gb355) (o := .cells #[.slice A0_0 l0_0.length c0_0] 24 (0, 0)) (bkl BK355) hb); have n4_ := Aside0.mk (below_step (bel1 HB GE355) hb); clear HO359; clear HO362; clear BK355; clear HB; have HO359 := n0_; have HO362 := n1_; have HO367 := n2_; have BK355 := n3_; have HB := n4_; clear n0_ n1_ n2_ n3_ n4_; (try clear hb); (try clear hb2); (try clear hk); (try clear hi); (try clear ho0)) | ((with_reducible refine gate_dst (N := 8) rfl ?_); refine box_event ?hg (N := 8) ?hd (cs := #[.slice none 0 0]) (t := 30) ?hr ?_; (case hd => rfl); (case hg => rfl); (case hr => first | (go_simp; done) | (go_simp; rfl)); intro gb368 hg w35 hbox hb; have n0_ := Aside0.mk (Kd.S_below (sdl HO359) hb); have n1_ := Aside0.mk (Kd.R_below (rdl HO362) hb); have n2_ := Aside0.mk (Kd.S_below (sdl HO367) hb); have n3_ := Aside0.mk (blk_below (g := gb355) (o := .cells #[.slice A0_0 l0_0.length c0_0] 24 (0, 0)) (bkl BK355) hb); have n4_ := Aside0.mk (below_step (bel1 HB GE355) hb); have n5_ := Aside0.mk (hbox); have n6_ := Aside0.mk ((by rw [hg]; exact (below_size (bel1 HB GE355)) : w.heap.size ≤ gb368)); have n7_ := Aside0.mk ((by rw [hg]; exact (below_size (bel1 HB GE355)) : w.heap.size ≤ gb368)); have n8_ := Aside0.mk ((by rw [hg]; exact Nat.ne_of_lt (blk_lt (g := gb355) (o := .cells #[.slice A0_0 l0_0.length c0_0] 24 (0, 0)) (bkl BK355)) : gb355 ≠ gb368)); have n9_ := Aside0.mk ((by rw [hg]; exact Nat.ne_of_gt (blk_lt (g := gb355) (o := .cells #[.slice A0_0 l0_0.length c0_0] 24 (0, 0)) (bkl BK355)) : gb368 ≠ gb355)); clear HO359; clear HO362; clear HO367; clear BK355; clear HB; have HO359 := n0_; have HO362 := n1_; have HO367 := n2_; have BK355 := n3_; have HB := n4_; have BK368 := n5_; have GW368 := n6_; have GE368 := n7_; have NB355_368 := n8_; have NB368_355 := n9_; clear n0_ n1_ n2_ n3_ n4_ n5_ n6_ n7_ n8_ n9_; clear hb hbox hg; obtain ⟨Ao36, co36, eo36⟩ := Kd.S_slice HO367.out; subst eo36; have hnb37 := NB368_355.out; have hnc37 := NB355_368.out; have hcz38_0 : w35.cell? ⟨gb368, 0, none⟩ = some (.slice none 0 0) := (blk_cell BK368.out 0).trans rfl; have hfz38_0 := blk_frozen BK368.out 0) | ((with_reducible refine gate_callee (f := 8) rfl ?_); refine goesL_ (some 31) rfl rfl Tryd.func8 (by kernel_rfl) rfl #[.slice A1 l1.length c1] rfl gmp ?_; (with_reducible refine (laws_toIntS.calls k _ _ l1 t369 _ ?side1 ?side2 A14.out).mono ?_); (case side1 => exact Kd.C_below HR1.out (bel2 HB GE355 GE368)); (case side2 => exact HC1.out); rintro e w39 ⟨v370, rfl, ho0, hb⟩; refine ⟨_, rfl, ?_⟩; have n0_ := Aside0.mk (Kd.S_elder' (by (with_reducible repeat (first | apply Kd.S_alloc | apply Kd.S_drewN | apply Kd.S_drew)); exact (Kd.S_mono (Kd.S_far (p := ⟨gb368, 0, none⟩) (Kd.S_types HO359.out BK368.out (by decide)) (fun _ hk => hk.2) (.slice Ao36 t365.length co36)) (fun _ h_ => h_.1))) (Kd.R_base ho0) hb); have n1_ := Aside0.mk (Kd.R_elder' (by (with_reducible repeat (first | apply Kd.R_alloc | apply Kd.R_drewN | apply Kd.R_drew)); exact (Kd.R_mono (Kd.R_far (p := ⟨gb368, 0, none⟩) (Kd.R_types HO362.out BK368.out (by decide)) (fun _ hk => hk.2) (.slice Ao36 t365.length co36)) (fun _ h_ => h_.1))) (Kd.R_base ho0) hb); have n2_ := Aside0.mk (Kd.S_elder' (by (with_reducible repeat (first | apply Kd.S_alloc | apply Kd.S_drewN | apply Kd.S_drew)); exact (Kd.S_mono (Kd.S_far (p := ⟨gb368, 0, none⟩) (Kd.S_types HO367.out BK368.out (by decide)) (fun _ hk => hk.2) (.slice Ao36 t365.length co36)) (fun _ h_ => h_.1))) (Kd.R_base ho0) hb); have n3_ := Aside0.mk (Kd.R_lower (Kd.R_new' ho0 (Kd.R_lt (by (with_reducible repeat (first | apply Kd.R_alloc | apply Kd.R_drewN | apply Kd.R_drew)); exact (Kd.R_mono (Kd.R_far (p := ⟨gb368, 0, none⟩) (Kd.R_types HO362.out BK368.out (by decide)) (fun _ hk => hk.2) (.slice Ao36 t365.length co36)) (fun _ h_ => h_.1))))) (below_size (bel2 HB GE355 GE368))); have n4_ := Aside0.mk (blk_below (g := gb355) (o := .cells #[.slice A0_0 l0_0.length c0_0] 24 (0, 0)) (by (with_reducible repeat (first | refine blk_drewN ?_ _ | refine blk_drew ?_ | refine blk_alloc ?_ _)); refine blk_far ?_ NB355_368.out _; (with_reducible repeat (first | refine blk_drewN ?_ _ | refine blk_drew ?_ | refine blk_alloc ?_ _)); exact BK355.out) hb); have n5_ := Aside0.mk (blk_below (g := gb368) (o := .cells #[.slice Ao36 t365.length co36] 30 (0, 0)) (by (with_reducible repeat (first | refine blk_drewN ?_ _ | refine blk_drew ?_ | refine blk_alloc ?_ _)); refine blk_put (cs := #[.slice none 0 0]) ?_ 0 _ rfl; (with_reducible repeat (first | refine blk_drewN ?_ _ | refine blk_drew ?_ | refine blk_alloc ?_ _)); exact BK368.out) hb); have n6_ := Aside0.mk (below_step (bel2 HB GE355 GE368) hb); clear HO359; clear HO362; clear HO367; clear BK355; clear BK368; clear HB; have HO359 := n0_; have HO362 := n1_; have HO367 := n2_; have HO371 := n3_; have BK355 := n4_; have BK368 := n5_; have HB := n6_; clear n0_ n1_ n2_ n3_ n4_ n5_ n6_; (try clear hb); (try clear hb2); (try clear hk); (try clear hi); (try clear ho0); have hcz40_0 : w39.cell? ⟨gb368, 0, none⟩ = some (.slice Ao36 t365.length co36) := (blk_cell BK368.out 0).trans rfl; have hfz40_0 := blk_frozen BK368.out 0; obtain ⟨Ao41, co41, eo41⟩ := Kd.R_slice HO371.out; subst eo41) | ((with_reducible refine gate_callee (f := 18) rfl ?_); refine goesL_ (some 35) rfl rfl Tryd.func18 (by kernel_rfl) rfl #[.agg #[.slice Ao36 t365.length co36], .slice Ao41 t369.length co41] rfl gmp ?_; (with_reducible refine (impl_FewestRelocations.calls k _ _ t365 _ _ t369 t372 t373 _ ?side1 ?side2 ?side3 ?side4 A15.out).mono ?_); (case side1 => repeat (first | exact (Kd.S_reads' HO367.out).2.2 | (with_reducible refine Kd.C_alloc ?_ _) | (with_reducible refine Kd.C_drewN ?_ _) | (with_reducible refine Kd.C_drew ?_))); (case side2 => exact (Kd.S_reads' HO367.out).2.1); (case side3 => repeat (first | exact (Kd.R_reads' HO371.out).2.2 | (with_reducible refine Kd.C_alloc ?_ _) | (with_reducible refine Kd.C_drewN ?_ _) | (with_reducible refine Kd.C_drew ?_))); (case side4 => exact (Kd.R_reads' HO371.out).2.1); rintro e w42 ⟨rfl, hb⟩; refine ⟨_, rfl, ?_⟩; have n0_ := Aside0.mk (Kd.S_below (sdl HO359) hb); have n1_ := Aside0.mk (Kd.R_below (rdl HO362) hb); have n2_ := Aside0.mk (Kd.S_below (sdl HO367) hb); have n3_ := Aside0.mk (Kd.R_below (rdl HO371) hb); have n4_ := Aside0.mk (blk_below (g := gb355) (o := .cells #[.slice A0_0 l0_0.length c0_0] 24 (0, 0)) (bkl BK355) hb); have n5_ := Aside0.mk (blk_below (g := gb368) (o := .cells #[.slice Ao36 t365.length co36] 30 (0, 0)) (bkl BK368) hb); have n6_ := Aside0.mk (below_step (bel2 HB GE355 GE368) hb); clear HO359; clear HO362; clear HO367; clear HO371; clear BK355; clear BK368; clear HB; have HO359 := n0_; have HO362 := n1_; have HO367 := n2_; have HO371 := n3_; have BK355 := n4_; have BK368 := n5_; have HB := n6_; clear n0_ n1_ n2_ n3_ n4_ n5_ n6_; (try clear hb); (try clear hb2); (try clear hk); (try clear hi)))
       have n0_ := Aside0.mk (Kd.S_drew HO359.out)
       have n1_ := Aside0.mk (Kd.R_drew HO362.out)
       have n2_ := Aside0.mk (Kd.S_drew HO367.out)
       have n3_ := Aside0.mk (Kd.R_drew HO371.out)
       have n4_ := Aside0.mk (blk_drew BK355.out)
       have n5_ := Aside0.mk (blk_drew BK368.out)
       have n6_ := Aside0.mk (below_drew1 HB.out)
       clear HO359
       clear HO362
       clear HO367
       clear HO371
       clear BK355
       clear BK368
       clear HB
       have HO359 := n0_
       have HO362 := n1_
       have HO367 := n2_
       have HO371 := n3_
       have BK355 := n4_
       have BK368 := n5_
       have HB := n6_
       clear n0_ n1_ n2_ n3_ n4_ n5_ n6_
       refine start_ (n := 5) (S := fun w' => w'.cell? ⟨gb368, 0, none⟩ = some (.slice Ao36 t365.length co36) ∧ w'.cell? ⟨gb355, 0, none⟩ = some (.slice A0_0 l0_0.length c0_0)) (ds := []) #[false, false, false, false, false] (by kernel_rfl) rfl rfl ⟨(blk_cell BK368.out 0).trans rfl, (blk_cell BK355.out 0).trans rfl⟩ (fun hHeld => ?_)
       generalize w42.drew = w43 at HO359 HO362 HO367 HO371 BK355 BK368 HB hHeld ⊢
       refine take_ (i := 0) (N := some 46) (v := ?_) (a' := ?_) #[true, false, false, false, false] rfl rfl (by kernel_rfl) (fun _ _ _ h => h) (Or.inl ⟨by rfl, ?_⟩) hHeld ?_ ?_
       rotate_left
       ·rintro w' ⟨s0, s1⟩
        go_simp
        with_reducible rfl
       rotate_left
       ·simp only [Act.put, List.setIfInBounds_toArray, List.set_cons_zero, List.set_cons_succ, i64_w, i32_w]
        rfl
       refine take_ (i := 1) (N := some 47) (v := ?_) (a' := ?_) #[true, true, false, false, false] rfl rfl (by kernel_rfl) (fun _ _ _ h => h) (Or.inl ⟨by rfl, ?_⟩) hHeld ?_ ?_
       rotate_left
       ·rintro w' ⟨s0, s1⟩
        go_simp
        with_reducible rfl
       rotate_left
       ·simp only [Act.put, List.setIfInBounds_toArray, List.set_cons_zero, List.set_cons_succ, i64_w, i32_w]
        rfl
       refine one_ (i := 2) (N := some 48) #[true, true, true, false, false] rfl rfl (by kernel_rfl) (by decide) (fun K hK => ?_)
       refine goes_ Tryd.func7 (by kernel_rfl) rfl #[.agg #[.slice A0_0 l0_0.length c0_0]] (by rfl) rfl rfl gmp ?_
       with_reducible refine (laws_toYard.calls k _ _ l0_0 t374 _ ?side1 ?side2 A18.out).mono ?_
       (case side1 => exact cdl (Kd.C_below HR0_0.out HB.out))
       (case side2 => exact HC0_0.out)
       rintro e w44 ⟨v375, rfl, ho0, hb⟩
       refine ⟨_, rfl, ?_⟩
       have n0_ := Aside0.mk (Kd.S_elder' (sdl HO359) (Kd.S_base ho0) hb)
       have n1_ := Aside0.mk (Kd.R_below (rdl HO362) hb)
       have n2_ := Aside0.mk (Kd.S_elder' (sdl HO367) (Kd.S_base ho0) hb)
       have n3_ := Aside0.mk (Kd.R_below (rdl HO371) hb)
       have n4_ := Aside0.mk (Kd.S_lower (Kd.S_new' (Kd.S_new' (Kd.S_new' (Kd.S_new' ho0 (Kd.S_lt (sdl HO359))) (Kd.R_lt (rdl HO362))) (Kd.S_lt (sdl HO367))) (Kd.R_lt (rdl HO371))) (below_size (bel2 HB GE355 GE368)))
       have n5_ := Aside0.mk (blk_below (g := gb355) (o := .cells #[.slice A0_0 l0_0.length c0_0] 24 (0, 0)) (bkl BK355) hb)
       have n6_ := Aside0.mk (blk_below (g := gb368) (o := .cells #[.slice Ao36 t365.length co36] 30 (0, 0)) (bkl BK368) hb)
       have n7_ := Aside0.mk (below_step (bel2 HB GE355 GE368) hb)
       clear HO359
       clear HO362
       clear HO367
       clear HO371
       clear BK355
       clear BK368
       clear HB
       have HO359 := n0_
       have HO362 := n1_
       have HO367 := n2_
       have HO371 := n3_
       have HO376 := n4_
       have BK355 := n5_
       have BK368 := n6_
       have HB := n7_
       clear n0_ n1_ n2_ n3_ n4_ n5_ n6_ n7_
       (try clear hb)
       (try clear hb2)
       (try clear hk)
       (try clear hi)
       (try clear ho0)
       obtain ⟨Ao45, co45, eo45⟩ := Kd.S_slice HO376.out
       (first | subst eo45 | (injection eo45 with f1_ f2_ f3_; have f4_ := f1_.symm; have f5_ := f3_.symm; clear f1_ f2_ f3_; subst f4_; subst f5_))
       refine hK.out _ _ ⟨(blk_cell BK368.out 0).trans rfl, (blk_cell BK355.out 0).trans rfl⟩ (fun hHeld => ?_)
       clear hK K
       refine norm_ (a' := ?_) ?_ ?_
       rotate_left
       ·show Act.put _ (some 48) _ = _
        simp only [Act.put, List.setIfInBounds_toArray, List.set_cons_zero, List.set_cons_succ, i64_w, i32_w]
        rfl
       refine one_ (i := 3) (N := some 49) #[true, true, true, true, false] rfl rfl (by kernel_rfl) (by decide) (fun K hK => ?_)
       refine goes_ Tryd.func11 (by kernel_rfl) rfl #[.agg #[.slice Ao36 t365.length co36], .agg #[.slice Ao45 t374.length co45]] (by rfl) rfl rfl gmp ?_
       with_reducible refine (laws_eqYard.calls k _ _ t365 _ _ t374 true _ ?side1 ?side2 ?side3 ?side4 A19.out).mono ?_
       (case side1 => repeat (first | exact (Kd.S_reads' HO367.out).2.2 | (with_reducible refine Kd.C_alloc ?_ _) | (with_reducible refine Kd.C_drewN ?_ _) | (with_reducible refine Kd.C_drew ?_)))
       (case side2 => exact (Kd.S_reads' HO367.out).2.1)
       (case side3 => repeat (first | exact (Kd.S_reads' HO376.out).2.2 | (with_reducible refine Kd.C_alloc ?_ _) | (with_reducible refine Kd.C_drewN ?_ _) | (with_reducible refine Kd.C_drew ?_)))
       (case side4 => exact (Kd.S_reads' HO376.out).2.1)
       rintro e w46 ⟨rfl, hb⟩
       refine ⟨_, rfl, ?_⟩
       have n0_ := Aside0.mk (Kd.S_below (sdl HO359) hb)
       have n1_ := Aside0.mk (Kd.R_below (rdl HO362) hb)
       have n2_ := Aside0.mk (Kd.S_below (sdl HO367) hb)
       have n3_ := Aside0.mk (Kd.R_below (rdl HO371) hb)
       have n4_ := Aside0.mk (Kd.S_below (sdl HO376) hb)
       have n5_ := Aside0.mk (blk_below (g := gb355) (o := .cells #[.slice A0_0 l0_0.length c0_0] 24 (0, 0)) (bkl BK355) hb)
       have n6_ := Aside0.mk (blk_below (g := gb368) (o := .cells #[.slice Ao36 t365.length co36] 30 (0, 0)) (bkl BK368) hb)
       have n7_ := Aside0.mk (below_step (bel2 HB GE355 GE368) hb)
       clear HO359
       clear HO362
       clear HO367
       clear HO371
       clear HO376
       clear BK355
       clear BK368
       clear HB
       have HO359 := n0_
       have HO362 := n1_
       have HO367 := n2_
       have HO371 := n3_
       have HO376 := n4_
       have BK355 := n5_
       have BK368 := n6_
       have HB := n7_
       clear n0_ n1_ n2_ n3_ n4_ n5_ n6_ n7_
       (try clear hb)
       (try clear hb2)
       (try clear hk)
       (try clear hi)
       refine hK.out _ _ ⟨(blk_cell BK368.out 0).trans rfl, (blk_cell BK355.out 0).trans rfl⟩ (fun hHeld => ?_)
       clear hK K
       refine norm_ (a' := ?_) ?_ ?_
       rotate_left
       ·show Act.put _ (some 49) _ = _
        simp only [Act.put, List.setIfInBounds_toArray, List.set_cons_zero, List.set_cons_succ, i64_w, i32_w]
        rfl
       refine pure_ (i := 4) (N := some 50) (v := ?_) (a' := ?_) #[true, true, true, true, true] rfl rfl (by kernel_rfl) (fun _ _ _ h => h) (Or.inl ⟨by rfl, ?_⟩) ?_ ?_
       rotate_left
       ·intro w'
        go_simp
        with_reducible rfl
       rotate_left
       ·simp only [Act.put, List.setIfInBounds_toArray, List.set_cons_zero, List.set_cons_succ, i64_w, i32_w]
        rfl
       refine done_ (by kernel_rfl) ?_
       try go_wp2_with (first | ((with_reducible refine gate_callee (f := 8) rfl ?_); refine goesL_ (some 53) rfl rfl Tryd.func8 (by kernel_rfl) rfl #[.slice A1 l1.length c1] rfl gmp ?_; (with_reducible refine (laws_toIntS.calls k _ _ l1 t378 _ ?side1 ?side2 A21.out).mono ?_); (case side1 => exact cdl (Kd.C_below HR1.out HB.out)); (case side2 => exact HC1.out); rintro e w47 ⟨v379, rfl, ho0, hb⟩; refine ⟨_, rfl, ?_⟩; have n0_ := Aside0.mk (Kd.S_elder' (sdl HO359) (Kd.R_base ho0) hb); have n1_ := Aside0.mk (Kd.R_elder' (rdl HO362) (Kd.R_base ho0) hb); have n2_ := Aside0.mk (Kd.S_elder' (sdl HO367) (Kd.R_base ho0) hb); have n3_ := Aside0.mk (Kd.R_elder' (rdl HO371) (Kd.R_base ho0) hb); have n4_ := Aside0.mk (Kd.S_elder' (sdl HO376) (Kd.R_base ho0) hb); have n5_ := Aside0.mk (Kd.R_lower (Kd.R_new' (Kd.R_new' ho0 (Kd.R_lt (rdl HO362))) (Kd.R_lt (rdl HO371))) (below_size (bel2 HB GE355 GE368))); have n6_ := Aside0.mk (blk_below (g := gb355) (o := .cells #[.slice A0_0 l0_0.length c0_0] 24 (0, 0)) (bkl BK355) hb); have n7_ := Aside0.mk (blk_below (g := gb368) (o := .cells #[.slice Ao36 t365.length co36] 30 (0, 0)) (bkl BK368) hb); have n8_ := Aside0.mk (below_step (bel2 HB GE355 GE368) hb); clear HO359; clear HO362; clear HO367; clear HO371; clear HO376; clear BK355; clear BK368; clear HB; have HO359 := n0_; have HO362 := n1_; have HO367 := n2_; have HO371 := n3_; have HO376 := n4_; have HO380 := n5_; have BK355 := n6_; have BK368 := n7_; have HB := n8_; clear n0_ n1_ n2_ n3_ n4_ n5_ n6_ n7_ n8_; (try clear hb); (try clear hb2); (try clear hk); (try clear hi); (try clear ho0); obtain ⟨Ao48, co48, eo48⟩ := Kd.R_slice HO380.out; subst eo48) | ((with_reducible refine gate_callee (f := 12) rfl ?_); refine goesL_ (some 54) rfl rfl Tryd.func12 (by kernel_rfl) rfl #[.slice Ao41 t369.length co41, .slice Ao48 t378.length co48] rfl gmp ?_; (with_reducible refine (laws_eqIntS.calls k _ _ t369 _ _ t378 true _ ?side1 ?side2 ?side3 ?side4 A22.out).mono ?_); (case side1 => repeat (first | exact (Kd.R_reads' HO371.out).2.2 | (with_reducible refine Kd.C_alloc ?_ _) | (with_reducible refine Kd.C_drewN ?_ _) | (with_reducible refine Kd.C_drew ?_))); (case side2 => exact (Kd.R_reads' HO371.out).2.1); (case side3 => repeat (first | exact (Kd.R_reads' HO380.out).2.2 | (with_reducible refine Kd.C_alloc ?_ _) | (with_reducible refine Kd.C_drewN ?_ _) | (with_reducible refine Kd.C_drew ?_))); (case side4 => exact (Kd.R_reads' HO380.out).2.1); rintro e w' ⟨rfl, ⟨nd, rfl⟩⟩; refine ⟨_, rfl, ?_⟩))
       go_ret
       exact ⟨by first | rfl | (simp [errW_none, errW_some] <;> rfl) | (simp [*, errW_none, errW_some] <;> rfl), bel2 HB GE355 GE368⟩
      ·replace c23 := Bool.eq_false_iff.mpr c23
       subst c23
       have H1 : (none) = some r := by rw [if_neg (show ¬ (false = true) by decide)] at H; exact H
       clear H
       have H := H1
       clear H1
       exact absurd H (by simp)
     ·replace c20 := Bool.eq_false_iff.mpr c20
      subst c20
      have H1 : (none) = some r := by rw [if_neg (show ¬ (false = true) by decide)] at H; exact H
      clear H
      have H := H1
      clear H1
      exact absurd H (by simp)
   ·rw [if_neg c16] at H
    exact absurd H (by simp)

/-- THE ONE PURE STATEMENT of laws_FnExactFewestRelocations. -/
def laws_FnExactFewestRelocations.Pure : Prop := ∀ (s0 : S24) (l1 : List Int), G24 s0 → (l1.length ≤ maxLen ∧ ∀ z382, z382 ∈ l1 → (Lit.int .i64 z382).wf = true) → ∃ k, laws_FnExactFewestRelocations.f k s0.f0 l1 = some true
theorem laws_FnExactFewestRelocations.walk (P : laws_FnExactFewestRelocations.Pure) (A0_0 : Option Addr) (c0_0 : Nat) (s0 : S24) (A1 : Option Addr) (c1 : Nat) (l1 : List Int) (w : World) (hr0_0 : Kd.C (Kd.slice 3 (Kd.int .i64)) w A0_0 s0.f0.length s0.f0) (hc0_0 : s0.f0.length ≤ c0_0) (g0 : G24 s0) (hr1 : Kd.C (Kd.int .i64) w A1 l1.length l1) (hc1 : l1.length ≤ c1) (g1 : (l1.length ≤ maxLen ∧ ∀ z383, z383 ∈ l1 → (Lit.int .i64 z383).wf = true)) :
  Calls Tryd.prog 4 #[.agg #[.slice A0_0 s0.f0.length c0_0], .slice A1 l1.length c1] w fun e w' => e = .returned (.bool true) ∧ Below w.heap.size w w' := by
 obtain ⟨k, h⟩ := P s0 l1 g0 g1
 refine (laws_FnExactFewestRelocations.calls k _ _ s0.f0 _ _ l1 true w hr0_0 hc0_0 hr1 hc1 h).mono ?_
 rintro e w' ⟨rfl, hd⟩
 exact ⟨rfl, hd⟩

end Go.Proofs.YtfcbdfedolnkfaaDoor.P
