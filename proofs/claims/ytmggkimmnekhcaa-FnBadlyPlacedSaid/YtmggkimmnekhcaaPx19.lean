-- Written by a program of this session over the translation (a variant of the printer, see wip/gen); Lean checks it.
import Derived.Test.YtmggkimmnekhcaaPx0
import Derived.Test.YtmggkimmnekhcaaPx11
import Derived.Test.YtmggkimmnekhcaaPx18
namespace Go.Proofs.Ytmggkimmnekhcaa.P
open Go.RowKit Go.Proofs.YtmggkimmnekhcaaW.PrintWords Go.Proofs.YtmggkimmnekhcaaW.PrintLast Go.Proofs.YtmggkimmnekhcaaW.PrintMore
attribute [local go_sem] Go.Proofs.Ytmggkimmnekhcaa.V.isSome_setCell max2_int min2_int max_two min_two max_three min_three max_four min_four
set_option linter.unusedVariables false
set_option linter.unusedSimpArgs false
/-! ### spec_l8Asked: function 39 -/
def spec_l8Asked.f (k : Nat) (l0_0 : List (List Int)) (l1 : List Int) : Option (Bool) := (spec_l5Good.f k l0_0).bind fun t408 => (if t408 = true then ((spec_l8Arrivals.f k l0_0 l1).bind fun t409 => (some t409)) else (some false))
theorem spec_l8Asked.mono : ∀ a0 a1 k, LeO (spec_l8Asked.f k a0 a1) (spec_l8Asked.f (k + 1) a0 a1) := by
 intro a0 a1 k
 unfold spec_l8Asked.f
 repeat' first
   | (with_reducible exact spec_l5Good.mono _ _)
   | (with_reducible exact spec_l8Arrivals.mono _ _ _)
   | (with_reducible exact LeO.refl _)
   | (with_reducible exact LeO.none _)
   | (with_reducible refine LeO.ite ?_ ?_)
   | (with_reducible refine LeO.bind ?_ (fun _ => ?_))
   | exact spec_l5Good.mono _ _
   | exact spec_l8Arrivals.mono _ _ _
   | exact LeO.none _
   | refine LeO.ite ?_ ?_
   | refine LeO.bind ?_ (fun _ => ?_)
set_option maxHeartbeats 8000000 in
set_option maxRecDepth 100000 in
theorem spec_l8Asked.calls (k : Nat) (A0_0 : Option Addr) (c0_0 : Nat) (l0_0 : List (List Int)) (A1 : Option Addr) (c1 : Nat) (l1 : List Int) (r : Bool) (w : World) (hr0_0 : Kd.C (Kd.slice 3 (Kd.int .i64)) w A0_0 l0_0.length l0_0) (hc0_0 : l0_0.length ≤ c0_0) (hr1 : Kd.C (Kd.int .i64) w A1 l1.length l1) (hc1 : l1.length ≤ c1) (h : spec_l8Asked.f k l0_0 l1 = some r) :
  Calls Try.prog 39 #[.agg #[.slice A0_0 l0_0.length c0_0], .slice A1 l1.length c1] w fun e w' => e = .returned (.bool r) ∧ Below w.heap.size w w' := by
 have hu26 := Try.underlying26
 have HR0_0 := Aside0.mk hr0_0
 have HC0_0 := Aside0.mk hc0_0
 clear hr0_0 hc0_0
 have HR1 := Aside0.mk hr1
 have HC1 := Aside0.mk hc1
 clear hr1 hc1
 have HB := Aside0.mk (Below.refl w.heap.size w)
 have H : ((spec_l5Good.f k l0_0).bind fun t408 => (if t408 = true then ((spec_l8Arrivals.f k l0_0 l1).bind fun t409 => (some t409)) else (some false))) = some r := h
 clear h
 replace H := Option.bind_eq_some_iff.mp H
 obtain ⟨t408, A30, H⟩ := H
 replace H : (if t408 = true then ((spec_l8Arrivals.f k l0_0 l1).bind fun t409 => (some t409)) else (some false)) = some r := H
 have A3 := Aside0.mk A30
 clear A30
 by_cases c4 : t408 = true
 rotate_left
 ·replace c4 := Bool.eq_false_iff.mpr c4
  subst c4
  have H1 : (some false) = some r := by rw [if_neg (show ¬ (false = true) by decide)] at H; exact H
  clear H
  have H := H1
  clear H1
  obtain rfl := Option.some.inj H
  go_enter Try.func39, Try.ntmps39
  go_wp2_with (first | ((with_reducible refine gate_dst (N := 2) rfl ?_); refine box_event ?hg (N := 2) ?hd (cs := #[.slice A0_0 l0_0.length c0_0]) (t := 26) ?hr ?_; (case hd => rfl); (case hg => rfl); (case hr => first | (go_simp; done) | (go_simp; rfl)); intro gb407 hg w11 hbox hb; have n0_ := Aside0.mk (below_step (bel HB) hb); have n1_ := Aside0.mk (hbox); have n2_ := Aside0.mk ((by rw [hg]; exact (below_size (bel HB)) : w.heap.size ≤ gb407)); have n3_ := Aside0.mk ((by rw [hg]; exact (below_size (bel HB)) : w.heap.size ≤ gb407)); clear HB; have HB := n0_; have BK407 := n1_; have GW407 := n2_; have GE407 := n3_; clear n0_ n1_ n2_ n3_; clear hb hbox hg; have hcz12_0 : w11.cell? ⟨gb407, 0, none⟩ = some (.slice A0_0 l0_0.length c0_0) := (blk_cell BK407.out 0).trans rfl; have hfz12_0 := blk_frozen BK407.out 0) | ((with_reducible refine gate_callee (f := 30) rfl ?_); refine goesL_ (some 6) rfl rfl Try.func30 (by kernel_rfl) rfl #[.agg #[.slice A0_0 l0_0.length c0_0]] rfl gmp ?_; (with_reducible refine (spec_l5Good.calls k _ _ l0_0 false _ ?side1 ?side2 A3.out).mono ?_); (case side1 => exact cdl (Kd.C_below HR0_0.out HB.out)); (case side2 => exact HC0_0.out); rintro e w13 ⟨rfl, hb⟩; refine ⟨_, rfl, ?_⟩; have n0_ := Aside0.mk (blk_below (g := gb407) (o := .cells #[.slice A0_0 l0_0.length c0_0] 26 (0, 0)) (bkl BK407) hb); have n1_ := Aside0.mk (below_step (bel1 HB GE407) hb); clear BK407; clear HB; have BK407 := n0_; have HB := n1_; clear n0_ n1_; (try clear hb); (try clear hb2); (try clear hk); (try clear hi)))
  go_ret
  exact ⟨by first | rfl | (simp [errW_none, errW_some] <;> rfl) | (simp [*, errW_none, errW_some] <;> rfl), bel1 HB GE407⟩
 subst c4
 have H1 : ((spec_l8Arrivals.f k l0_0 l1).bind fun t409 => (some t409)) = some r := by rw [if_pos rfl] at H; exact H
 clear H
 have H := H1
 clear H1
 replace H := Option.bind_eq_some_iff.mp H
 obtain ⟨t409, A50, H⟩ := H
 replace H : (some t409) = some r := H
 have A5 := Aside0.mk A50
 clear A50
 obtain rfl := Option.some.inj H
 go_enter Try.func39, Try.ntmps39
 go_wp2_with (first | ((with_reducible refine gate_dst (N := 2) rfl ?_); refine box_event ?hg (N := 2) ?hd (cs := #[.slice A0_0 l0_0.length c0_0]) (t := 26) ?hr ?_; (case hd => rfl); (case hg => rfl); (case hr => first | (go_simp; done) | (go_simp; rfl)); intro gb407 hg w6 hbox hb; have n0_ := Aside0.mk (below_step (bel HB) hb); have n1_ := Aside0.mk (hbox); have n2_ := Aside0.mk ((by rw [hg]; exact (below_size (bel HB)) : w.heap.size ≤ gb407)); have n3_ := Aside0.mk ((by rw [hg]; exact (below_size (bel HB)) : w.heap.size ≤ gb407)); clear HB; have HB := n0_; have BK407 := n1_; have GW407 := n2_; have GE407 := n3_; clear n0_ n1_ n2_ n3_; clear hb hbox hg; have hcz7_0 : w6.cell? ⟨gb407, 0, none⟩ = some (.slice A0_0 l0_0.length c0_0) := (blk_cell BK407.out 0).trans rfl; have hfz7_0 := blk_frozen BK407.out 0) | ((with_reducible refine gate_callee (f := 30) rfl ?_); refine goesL_ (some 6) rfl rfl Try.func30 (by kernel_rfl) rfl #[.agg #[.slice A0_0 l0_0.length c0_0]] rfl gmp ?_; (with_reducible refine (spec_l5Good.calls k _ _ l0_0 true _ ?side1 ?side2 A3.out).mono ?_); (case side1 => exact cdl (Kd.C_below HR0_0.out HB.out)); (case side2 => exact HC0_0.out); rintro e w8 ⟨rfl, hb⟩; refine ⟨_, rfl, ?_⟩; have n0_ := Aside0.mk (blk_below (g := gb407) (o := .cells #[.slice A0_0 l0_0.length c0_0] 26 (0, 0)) (bkl BK407) hb); have n1_ := Aside0.mk (below_step (bel1 HB GE407) hb); clear BK407; clear HB; have BK407 := n0_; have HB := n1_; clear n0_ n1_; (try clear hb); (try clear hb2); (try clear hk); (try clear hi); have hcz9_0 : w8.cell? ⟨gb407, 0, none⟩ = some (.slice A0_0 l0_0.length c0_0) := (blk_cell BK407.out 0).trans rfl; have hfz9_0 := blk_frozen BK407.out 0) | (go_at_call 62; (with_reducible refine (spec_l8Arrivals.calls k _ _ l0_0 _ _ l1 t409 _ ?side1 ?side2 ?side3 ?side4 A5.out).mono ?_); (case side1 => exact cdl (Kd.C_below HR0_0.out HB.out)); (case side2 => exact HC0_0.out); (case side3 => exact cdl (Kd.C_below HR1.out HB.out)); (case side4 => exact HC1.out); rintro e w10 ⟨rfl, hb⟩; have n0_ := Aside0.mk (blk_below (g := gb407) (o := .cells #[.slice A0_0 l0_0.length c0_0] 26 (0, 0)) (bkl BK407) hb); have n1_ := Aside0.mk (below_step (bel1 HB GE407) hb); clear BK407; clear HB; have BK407 := n0_; have HB := n1_; clear n0_ n1_; (try clear hb); (try clear hb2); (try clear hk); (try clear hi)))
 go_ret
 exact ⟨by first | rfl | (simp [errW_none, errW_some] <;> rfl) | (simp [*, errW_none, errW_some] <;> rfl), bel1 HB GE407⟩
/-! ### spec_l1Least: function 74 -/
def spec_l1Least.f (a0 : Int) (a1 : Int) : Option (Int) := if a0 < a1 then (some a0) else (some a1)
set_option maxHeartbeats 8000000 in
set_option maxRecDepth 100000 in
theorem spec_l1Least.calls (a0 : Int) (a1 : Int) (r : Int) (w : World) (h : spec_l1Least.f a0 a1 = some r) :
  Calls Try.prog 74 #[.int .i64 a0, .int .i64 a1] w fun e w' => e = .returned (.int .i64 r) ∧ Drawn0 w w' := by
 have H : (if a0 < a1 then (some a0) else (some a1)) = some r := h
 clear h
 by_cases c3 : a0 < a1
 ·rw [if_pos c3] at H
  have c3b0 : decide (a0 < a1) = true := decide_eq_true c3
  clear c3
  obtain rfl := Option.some.inj H
  go_enter Try.func74, Try.ntmps74
  go_wp2
  go_ret
  exact ⟨by first | rfl | (simp; done) | (simp [*]; done), by repeat (first | exact Drawn0.refl _ | apply Drawn0.step)⟩
 rw [if_neg c3] at H
 have c3b0 : decide (a0 < a1) = false := decide_eq_false c3
 clear c3
 obtain rfl := Option.some.inj H
 go_enter Try.func74, Try.ntmps74
 go_wp2
 go_ret
 exact ⟨by first | rfl | (simp; done) | (simp [*]; done), by repeat (first | exact Drawn0.refl _ | apply Drawn0.step)⟩
/-! ### spec_l8Earliest: function 63 -/
def spec_l8Earliest.l0 : Nat → List Int → Int → Int → Option (Int)
 | 0, _, _, _ => none
 | k + 1, x0, x3, x4 => if x4 < (x0.length : Int) then (if 0 ≤ x4 then ((spec_l1Least.f x3 (rd x0 x4)).bind fun t411 => (spec_l8Earliest.l0 k x0 t411 (wrap64 (x4 + 1)))) else (none)) else (some x3)
def spec_l8Earliest.f (k : Nat) (l0 : List Int) : Option (Int) := spec_l8Earliest.l0 k l0 100 0
theorem spec_l8Earliest.mono_l : ∀ k, (∀ y0 y1 y2, LeO (spec_l8Earliest.l0 k y0 y1 y2) (spec_l8Earliest.l0 (k + 1) y0 y1 y2))
 | 0 => fun _ _ _ r h => by simp [spec_l8Earliest.l0] at h
 | k + 1 => by
  have ih0 := spec_l8Earliest.mono_l k
  ·intro y0 y1 y2
   unfold spec_l8Earliest.l0
   repeat' first
   | (with_reducible exact ih0 _ _ _)
   | (with_reducible exact LeO.refl _)
   | (with_reducible exact LeO.none _)
   | (with_reducible refine LeO.ite ?_ ?_)
   | (with_reducible refine LeO.bind ?_ (fun _ => ?_))
   | exact ih0 _ _ _
   | exact LeO.none _
   | refine LeO.ite ?_ ?_
   | refine LeO.bind ?_ (fun _ => ?_)
theorem spec_l8Earliest.mono : ∀ a0 k, LeO (spec_l8Earliest.f k a0) (spec_l8Earliest.f (k + 1) a0) := by
 intro a0 k
 have ih0 := spec_l8Earliest.mono_l k
 unfold spec_l8Earliest.f
 repeat' first
   | (with_reducible exact ih0 _ _ _)
   | (with_reducible exact LeO.refl _)
   | (with_reducible exact LeO.none _)
   | (with_reducible refine LeO.ite ?_ ?_)
   | (with_reducible refine LeO.bind ?_ (fun _ => ?_))
   | exact ih0 _ _ _
   | exact LeO.none _
   | refine LeO.ite ?_ ?_
   | refine LeO.bind ?_ (fun _ => ?_)
set_option maxHeartbeats 8000000 in
set_option maxRecDepth 100000 in
theorem spec_l8Earliest.calls (k : Nat) (A0 : Option Addr) (c0 : Nat) (l0 : List Int) (r : Int) (w : World) (hr0 : Kd.C (Kd.int .i64) w A0 l0.length l0) (hc0 : l0.length ≤ c0) (h : spec_l8Earliest.f k l0 = some r) :
  Calls Try.prog 63 #[.slice A0 l0.length c0] w fun e w' => e = .returned (.int .i64 r) ∧ Drawn0 w w' := by
 have HR0 := Aside0.mk hr0
 have HC0 := Aside0.mk hc0
 clear hr0 hc0
 have H : (spec_l8Earliest.l0 k l0 100 0) = some r := h
 clear h
 have H' := Aside0.mk H
 clear H
 go_enter Try.func63, Try.ntmps63
 go_wp2
 go_loopg [3, 4] k (fun kq v3 v4 w' => ∃ (x3_1 : Int) (x4_1 : Int), v3 = .int .i64 x3_1 ∧ v4 = .int .i64 x4_1 ∧ Aside0 (spec_l8Earliest.l0 kq l0 x3_1 x4_1 = some r) ∧ Aside0 (kq ≤ k) ∧ Drawn0 w w')
 case atStart => exact ⟨(100), (0), (by first | rfl | (simp; done) | (simp [*]; done)), (by first | rfl | (simp; done) | (simp [*]; done)), H', ⟨Nat.le_refl _⟩, by repeat (first | exact Drawn0.refl _ | apply Drawn0.step)⟩
 clear H'
 obtain ⟨x3_1, x4_1, rfl, rfl, HA, HK1, ⟨m1, rfl⟩⟩ := hrel
 cases gk with
 | zero => exact absurd HA.out (by simp [spec_l8Earliest.l0])
 | succ k1 =>
  have H := HA.out
  clear HA
  simp only [spec_l8Earliest.l0] at H
  by_cases c2 : x4_1 < (l0.length : Int)
  rotate_left
  ·rw [if_neg c2] at H
   have c2b0 : decide (x4_1 < (l0.length : Int)) = false := decide_eq_false c2
   clear c2
   obtain rfl := Option.some.inj H
   go_wp2
   go_ret
   exact ⟨by first | rfl | (simp; done) | (simp [*]; done), by repeat (first | exact Drawn0.refl _ | apply Drawn0.step)⟩
  rw [if_pos c2] at H
  have c2b0 : decide (x4_1 < (l0.length : Int)) = true := decide_eq_true c2
  clear c2
  by_cases c3 : 0 ≤ x4_1
  rotate_left
  ·rw [if_neg c3] at H
   exact absurd H (by simp)
  rw [if_pos c3] at H
  have c3b0 : decide (0 ≤ x4_1) = true := decide_eq_true c3
  clear c3
  replace H := Option.bind_eq_some_iff.mp H
  obtain ⟨t411, A40, H⟩ := H
  replace H : (spec_l8Earliest.l0 k1 l0 t411 (wrap64 (x4_1 + 1))) = some r := H
  have A4 := Aside0.mk A40
  clear A40
  have H' := Aside0.mk H
  clear H
  have p410 : 0 ≤ (x4_1 : Int) := oda
  have q410 : x4_1 < (l0.length : Int) := oda
  obtain ⟨ad410, e410, hx410_0⟩ := Kd.at_int HR0.out x4_1 p410 q410
  cases e410
  replace p410 := eq_true p410
  replace q410 := eq_true q410
  go_wp2_with (first | ((with_reducible refine gate_callee (f := 74) rfl ?_); refine goesL_ (some 16) rfl rfl Try.func74 (by kernel_rfl) rfl #[.int .i64 x3_1, .int .i64 (rd l0 x4_1)] rfl gmp ?_; (with_reducible refine (spec_l1Least.calls x3_1 (rd l0 x4_1) t411 _ A4.out).mono ?_); rintro e w' ⟨rfl, ⟨nd, rfl⟩⟩; refine ⟨_, rfl, ?_⟩))
  go_roundg k1
  case measure => have := HK1.out; omega
  case rel => exact ⟨(t411), (wrap64 (x4_1 + 1)), (by first | rfl | (simp; done) | (simp [*]; done)), (by first | rfl | (simp; done) | (simp [*]; done)), H', ⟨by have := HK1.out; omega⟩, by repeat (first | exact Drawn0.refl _ | apply Drawn0.step)⟩
/-! ### spec_l8Choose: function 40 -/
mutual
def spec_l8Choose.l0 : Nat → Int → Int → Int → Int → List (List Int) → Option (Int)
 | 0, _, _, _, _, _ => none
 | k + 1, x1, x5, x6, x7, x413000 => if x7 < (x413000.length : Int) then (if 0 ≤ x7 then (if ((rd_L2 x413000 x7).length : Int) = 4 then (spec_l8Choose.l0 k x1 x5 x6 (wrap64 (x7 + 1)) x413000) else ((spec_l8Earliest.f k (rd_L2 x413000 x7)).bind fun t415 => (if t415 > x1 then (if x5 < 0 then (spec_l8Choose.j1 k x1 x5 x6 x7 t415 true x413000) else (if 0 ≤ x5 then (if x5 < (x413000.length : Int) then ((spec_l8Earliest.f k (rd_L2 x413000 x5)).bind fun t417 => (spec_l8Choose.j1 k x1 x5 x6 x7 t415 (decide (t415 < t417)) x413000)) else (none)) else (none))) else (spec_l8Choose.j1 k x1 x5 x6 x7 t415 false x413000)))) else (none)) else (if x5 ≥ 0 then (some x5) else (some x6))
def spec_l8Choose.j1 : Nat → Int → Int → Int → Int → Int → Bool → List (List Int) → Option (Int)
 | 0, _, _, _, _, _, _, _ => none
 | k + 1, x1, x5, x6, x7, x8, x45, x413000 => if x45 = true then (if x6 < 0 then (spec_l8Choose.l0 k x1 x7 x7 (wrap64 (x7 + 1)) x413000) else (if 0 ≤ x6 then (if x6 < (x413000.length : Int) then ((spec_l8Earliest.f k (rd_L2 x413000 x6)).bind fun t419 => (if x8 > t419 then (spec_l8Choose.l0 k x1 x7 x7 (wrap64 (x7 + 1)) x413000) else (spec_l8Choose.l0 k x1 x7 x6 (wrap64 (x7 + 1)) x413000))) else (none)) else (none))) else (if x6 < 0 then (spec_l8Choose.l0 k x1 x5 x7 (wrap64 (x7 + 1)) x413000) else (if 0 ≤ x6 then (if x6 < (x413000.length : Int) then ((spec_l8Earliest.f k (rd_L2 x413000 x6)).bind fun t421 => (if x8 > t421 then (spec_l8Choose.l0 k x1 x5 x7 (wrap64 (x7 + 1)) x413000) else (spec_l8Choose.l0 k x1 x5 x6 (wrap64 (x7 + 1)) x413000))) else (none)) else (none)))
end
def spec_l8Choose.f (k : Nat) (l0_0 : List (List Int)) (a1 : Int) : Option (Int) := spec_l8Choose.l0 k a1 (-1) (-1) 0 l0_0
theorem spec_l8Choose.mono_l : ∀ k, (∀ y0 y1 y2 y3 y4, LeO (spec_l8Choose.l0 k y0 y1 y2 y3 y4) (spec_l8Choose.l0 (k + 1) y0 y1 y2 y3 y4)) ∧ (∀ y0 y1 y2 y3 y4 y5 y6, LeO (spec_l8Choose.j1 k y0 y1 y2 y3 y4 y5 y6) (spec_l8Choose.j1 (k + 1) y0 y1 y2 y3 y4 y5 y6))
 | 0 => ⟨fun _ _ _ _ _ r h => by simp [spec_l8Choose.l0] at h, fun _ _ _ _ _ _ _ r h => by simp [spec_l8Choose.j1] at h⟩
 | k + 1 => by
  obtain ⟨ih0, ih1⟩ := spec_l8Choose.mono_l k
  refine ⟨?_, ?_⟩
  ·intro y0 y1 y2 y3 y4
   unfold spec_l8Choose.l0
   repeat' first
   | (with_reducible exact ih0 _ _ _ _ _)
   | (with_reducible exact ih1 _ _ _ _ _ _ _)
   | (with_reducible exact spec_l8Earliest.mono _ _)
   | (with_reducible exact LeO.refl _)
   | (with_reducible exact LeO.none _)
   | (with_reducible refine LeO.ite ?_ ?_)
   | (with_reducible refine LeO.bind ?_ (fun _ => ?_))
   | exact ih0 _ _ _ _ _
   | exact ih1 _ _ _ _ _ _ _
   | exact spec_l8Earliest.mono _ _
   | exact LeO.none _
   | refine LeO.ite ?_ ?_
   | refine LeO.bind ?_ (fun _ => ?_)
  ·intro y0 y1 y2 y3 y4 y5 y6
   unfold spec_l8Choose.j1
   repeat' first
   | (with_reducible exact ih0 _ _ _ _ _)
   | (with_reducible exact ih1 _ _ _ _ _ _ _)
   | (with_reducible exact spec_l8Earliest.mono _ _)
   | (with_reducible exact LeO.refl _)
   | (with_reducible exact LeO.none _)
   | (with_reducible refine LeO.ite ?_ ?_)
   | (with_reducible refine LeO.bind ?_ (fun _ => ?_))
   | exact ih0 _ _ _ _ _
   | exact ih1 _ _ _ _ _ _ _
   | exact spec_l8Earliest.mono _ _
   | exact LeO.none _
   | refine LeO.ite ?_ ?_
   | refine LeO.bind ?_ (fun _ => ?_)
theorem spec_l8Choose.mono : ∀ a0 a1 k, LeO (spec_l8Choose.f k a0 a1) (spec_l8Choose.f (k + 1) a0 a1) := by
 intro a0 a1 k
 obtain ⟨ih0, ih1⟩ := spec_l8Choose.mono_l k
 unfold spec_l8Choose.f
 repeat' first
   | (with_reducible exact ih0 _ _ _ _ _)
   | (with_reducible exact ih1 _ _ _ _ _ _ _)
   | (with_reducible exact spec_l8Earliest.mono _ _)
   | (with_reducible exact LeO.refl _)
   | (with_reducible exact LeO.none _)
   | (with_reducible refine LeO.ite ?_ ?_)
   | (with_reducible refine LeO.bind ?_ (fun _ => ?_))
   | exact ih0 _ _ _ _ _
   | exact ih1 _ _ _ _ _ _ _
   | exact spec_l8Earliest.mono _ _
   | exact LeO.none _
   | refine LeO.ite ?_ ?_
   | refine LeO.bind ?_ (fun _ => ?_)
set_option maxHeartbeats 8000000 in
set_option maxRecDepth 100000 in
theorem spec_l8Choose.calls (k : Nat) (A0_0 : Option Addr) (c0_0 : Nat) (l0_0 : List (List Int)) (a1 : Int) (r : Int) (w : World) (hr0_0 : Kd.C (Kd.slice 3 (Kd.int .i64)) w A0_0 l0_0.length l0_0) (hc0_0 : l0_0.length ≤ c0_0) (h : spec_l8Choose.f k l0_0 a1 = some r) :
  Calls Try.prog 40 #[.agg #[.slice A0_0 l0_0.length c0_0], .int .i64 a1] w fun e w' => e = .returned (.int .i64 r) ∧ Below w.heap.size w w' := by
 have hu26 := Try.underlying26
 have HR0_0 := Aside0.mk hr0_0
 have HC0_0 := Aside0.mk hc0_0
 clear hr0_0 hc0_0
 have HB := Aside0.mk (Below.refl w.heap.size w)
 have H : (spec_l8Choose.l0 k a1 (-1) (-1) 0 l0_0) = some r := h
 clear h
 have H' := Aside0.mk H
 clear H
 go_enter Try.func40, Try.ntmps40
 go_wp2_with (first | ((with_reducible refine gate_dst (N := 2) rfl ?_); refine box_event ?hg (N := 2) ?hd (cs := #[.slice A0_0 l0_0.length c0_0]) (t := 26) ?hr ?_; (case hd => rfl); (case hg => rfl); (case hr => first | (go_simp; done) | (go_simp; rfl)); intro gb412 hg w3 hbox hb; have n0_ := Aside0.mk (below_step (bel HB) hb); have n1_ := Aside0.mk (hbox); have n2_ := Aside0.mk ((by rw [hg]; exact (below_size (bel HB)) : w.heap.size ≤ gb412)); have n3_ := Aside0.mk ((by rw [hg]; exact (below_size (bel HB)) : w.heap.size ≤ gb412)); clear HB; have HB := n0_; have BK412 := n1_; have GW412 := n2_; have GE412 := n3_; clear n0_ n1_ n2_ n3_; clear hb hbox hg))
 go_loopg [5, 6, 7] k (fun kq v5 v6 v7 w' => ∃ (x5_1 : Int) (x6_1 : Int) (x7_1 : Int), v5 = .int .i64 x5_1 ∧ v6 = .int .i64 x6_1 ∧ v7 = .int .i64 x7_1 ∧ Aside0 (spec_l8Choose.l0 kq a1 x5_1 x6_1 x7_1 l0_0 = some r) ∧ Aside0 (kq ≤ k) ∧ Aside0 (w'.heap[gb412]? = some (.cells #[(.slice A0_0 l0_0.length c0_0)] 26 (0, 0))) ∧ Aside0 (Below w.heap.size w w'))
 case atStart => exact ⟨((-1)), ((-1)), (0), (by first | rfl | (simp; done) | (simp [*]; done)), (by first | rfl | (simp; done) | (simp [*]; done)), (by first | rfl | (simp; done) | (simp [*]; done)), H', ⟨Nat.le_refl _⟩, ⟨bkl BK412⟩, ⟨bel1 HB GE412⟩⟩
 clear H'
 try clear p2
 obtain ⟨x5_1, x6_1, x7_1, rfl, rfl, rfl, HA, HK1, BK412, HB⟩ := hrel
 cases gk with
 | zero => exact absurd HA.out (by simp [spec_l8Choose.l0])
 | succ k1 =>
  have H := HA.out
  clear HA
  simp only [spec_l8Choose.l0] at H
  by_cases c4 : x7_1 < (l0_0.length : Int)
  rotate_left
  ·rw [if_neg c4] at H
   have c4b0 : decide (x7_1 < (l0_0.length : Int)) = false := decide_eq_false c4
   clear c4
   by_cases c32 : x5_1 ≥ 0
   ·rw [if_pos c32] at H
    have c32b0 : decide (0 ≤ x5_1) = true := decide_eq_true c32
    clear c32
    obtain rfl := Option.some.inj H
    have hcz33_0 : wr.cell? ⟨gb412, 0, none⟩ = some (.slice A0_0 l0_0.length c0_0) := (blk_cell BK412.out 0).trans rfl
    have hfz33_0 := blk_frozen BK412.out 0
    go_wp2
    go_ret
    exact ⟨by first | rfl | (simp [errW_none, errW_some] <;> rfl) | (simp [*, errW_none, errW_some] <;> rfl), bel1 HB GE412⟩
   rw [if_neg c32] at H
   have c32b0 : decide (0 ≤ x5_1) = false := decide_eq_false c32
   clear c32
   obtain rfl := Option.some.inj H
   have hcz34_0 : wr.cell? ⟨gb412, 0, none⟩ = some (.slice A0_0 l0_0.length c0_0) := (blk_cell BK412.out 0).trans rfl
   have hfz34_0 := blk_frozen BK412.out 0
   go_wp2
   go_ret
   exact ⟨by first | rfl | (simp [errW_none, errW_some] <;> rfl) | (simp [*, errW_none, errW_some] <;> rfl), bel1 HB GE412⟩
  rw [if_pos c4] at H
  have c4b0 : decide (x7_1 < (l0_0.length : Int)) = true := decide_eq_true c4
  clear c4
  by_cases c5 : 0 ≤ x7_1
  rotate_left
  ·rw [if_neg c5] at H
   exact absurd H (by simp)
  rw [if_pos c5] at H
  have c5b0 : decide (0 ≤ x7_1) = true := decide_eq_true c5
  clear c5
  by_cases c6 : ((rd_L2 l0_0 x7_1).length : Int) = 4
  ·rw [if_pos c6] at H
   have c6b0 : (((rd_L2 l0_0 x7_1).length : Int) == 4) = true := beq_iff_eq.mpr c6
   have c6b1 : (((rd_L2 l0_0 x7_1).length : Int) != 4) = false := bne_eq_false_iff_eq.mpr c6
   clear c6
   have H' := Aside0.mk H
   clear H
   have hcz7_0 : wr.cell? ⟨gb412, 0, none⟩ = some (.slice A0_0 l0_0.length c0_0) := (blk_cell BK412.out 0).trans rfl
   have hfz7_0 := blk_frozen BK412.out 0
   have p413 : 0 ≤ (x7_1 : Int) := oda
   have q413 : x7_1 < (l0_0.length : Int) := oda
   obtain ⟨ad413, A413_0, c413_0, e413, hx413_0, hl413_0, hi413_0⟩ := at_L2 HR0_0.out x7_1 p413 q413
   cases e413
   replace hx413_0 := cel HB hx413_0
   have HR413_0 := Aside0.mk hi413_0
   have HC413_0 := Aside0.mk hl413_0
   clear hi413_0 hl413_0
   replace p413 := eq_true p413
   replace q413 := eq_true q413
   go_wp2
   go_roundg k1
   case measure => have := HK1.out; omega
   case rel => exact ⟨(x5_1), (x6_1), (wrap64 (x7_1 + 1)), (by first | rfl | (simp; done) | (simp [*]; done)), (by first | rfl | (simp; done) | (simp [*]; done)), (by first | rfl | (simp; done) | (simp [*]; done)), H', ⟨by have := HK1.out; omega⟩, ⟨bkl BK412⟩, ⟨bel1 HB GE412⟩⟩
  rw [if_neg c6] at H
  have c6b0 : (((rd_L2 l0_0 x7_1).length : Int) == 4) = false := beq_eq_false_iff_ne.mpr c6
  have c6b1 : (((rd_L2 l0_0 x7_1).length : Int) != 4) = true := bne_iff_ne.mpr c6
  replace H := Option.bind_eq_some_iff.mp H
  obtain ⟨t415, A80, H⟩ := H
  replace H : (if t415 > a1 then (if x5_1 < 0 then (spec_l8Choose.j1 k1 a1 x5_1 x6_1 x7_1 t415 true l0_0) else (if 0 ≤ x5_1 then (if x5_1 < (l0_0.length : Int) then ((spec_l8Earliest.f k1 (rd_L2 l0_0 x5_1)).bind fun t417 => (spec_l8Choose.j1 k1 a1 x5_1 x6_1 x7_1 t415 (decide (t415 < t417)) l0_0)) else (none)) else (none))) else (spec_l8Choose.j1 k1 a1 x5_1 x6_1 x7_1 t415 false l0_0)) = some r := H
  have A8 := Aside0.mk A80
  clear A80
  have HC9 := Aside0.mk H
  clear H
  have hcz10_0 : wr.cell? ⟨gb412, 0, none⟩ = some (.slice A0_0 l0_0.length c0_0) := (blk_cell BK412.out 0).trans rfl
  have hfz10_0 := blk_frozen BK412.out 0
  have p413 : 0 ≤ (x7_1 : Int) := oda
  have q413 : x7_1 < (l0_0.length : Int) := oda
  obtain ⟨ad413, A413_0, c413_0, e413, hx413_0, hl413_0, hi413_0⟩ := at_L2 HR0_0.out x7_1 p413 q413
  cases e413
  replace hx413_0 := cel HB hx413_0
  have HR413_0 := Aside0.mk hi413_0
  have HC413_0 := Aside0.mk hl413_0
  clear hi413_0 hl413_0
  replace p413 := eq_true p413
  replace q413 := eq_true q413
  have p414 : 0 ≤ (x7_1 : Int) := oda
  have q414 : x7_1 < (l0_0.length : Int) := oda
  obtain ⟨ad414, A414_0, c414_0, e414, hx414_0, hl414_0, hi414_0⟩ := at_L2 HR0_0.out x7_1 p414 q414
  obtain rfl : ad413 = ad414 := (by injection e414)
  replace hx414_0 := cel HB hx414_0
  have HR414_0 := Aside0.mk hi414_0
  have HC414_0 := Aside0.mk hl414_0
  clear hi414_0 hl414_0
  replace p414 := eq_true p414
  replace q414 := eq_true q414
  have ea_ := Option.some.inj (hx413_0.symm.trans hx414_0)
  injection ea_ with ea_ en_ ec_
  subst ea_
  subst ec_
  clear en_
  go_upto_region 7 with (first | ((with_reducible refine gate_callee (f := 63) rfl ?_); refine goesL_ (some 28) rfl rfl Try.func63 (by kernel_rfl) rfl #[.slice A413_0 (rd_L2 l0_0 x7_1).length c413_0] rfl gmp ?_; (with_reducible refine (spec_l8Earliest.calls k1 _ _ (rd_L2 l0_0 x7_1) t415 _ ?side1 ?side2 A8.out).mono ?_); (case side1 => exact cdl (Kd.C_below HR414_0.out HB.out)); (case side2 => exact HC414_0.out); rintro e w' ⟨rfl, ⟨nd, rfl⟩⟩; refine ⟨_, rfl, ?_⟩))
  (try simp only [Act.put, List.setIfInBounds_toArray, List.set_cons_zero, List.set_cons_succ])
  go_cut [45] (fun v45 wc => ∃ (kq : Nat) (x45_8 : Bool), v45 = .bool x45_8 ∧ Aside0 (spec_l8Choose.j1 kq a1 x5_1 x6_1 x7_1 t415 x45_8 l0_0 = some r) ∧ Aside0 (kq ≤ k1) ∧ Aside0 (wc.heap[gb412]? = some (.cells #[(.slice (some ad413) l0_0.length c0_0)] 26 (0, 0))) ∧ Aside0 (Below w.heap.size w wc))
  case first =>
   have H := HC9.out
   clear HC9
   by_cases c11 : t415 > a1
   rotate_left
   ·rw [if_neg c11] at H
    have c11b0 : decide (a1 < t415) = false := decide_eq_false c11
    clear c11
    (first | rw [c11b0] | (simp only [i64_w, i32_w]; rw [c11b0]) | skip)
    have H' := Aside0.mk H
    clear H
    go_wp2
    go_meet
    case rel => exact ⟨_, (false), (by first | rfl | (simp; done) | (simp [*]; done)), H', ⟨by have := HK1.out; first | omega | exact Nat.le_refl _⟩, ⟨bkl BK412⟩, ⟨bel1 HB GE412⟩⟩
   rw [if_pos c11] at H
   have c11b0 : decide (a1 < t415) = true := decide_eq_true c11
   clear c11
   (first | rw [c11b0] | (simp only [i64_w, i32_w]; rw [c11b0]) | skip)
   by_cases c12 : x5_1 < 0
   ·rw [if_pos c12] at H
    have c12b0 : decide (x5_1 < 0) = true := decide_eq_true c12
    clear c12
    have H' := Aside0.mk H
    clear H
    go_wp2
    go_meet
    case rel => exact ⟨_, (true), (by first | rfl | (simp; done) | (simp [*]; done)), H', ⟨by have := HK1.out; first | omega | exact Nat.le_refl _⟩, ⟨bkl BK412⟩, ⟨bel1 HB GE412⟩⟩
   rw [if_neg c12] at H
   have c12b0 : decide (x5_1 < 0) = false := decide_eq_false c12
   clear c12
   by_cases c13 : 0 ≤ x5_1
   rotate_left
   ·rw [if_neg c13] at H
    exact absurd H (by simp)
   rw [if_pos c13] at H
   have c13b0 : decide (0 ≤ x5_1) = true := decide_eq_true c13
   clear c13
   by_cases c14 : x5_1 < (l0_0.length : Int)
   rotate_left
   ·rw [if_neg c14] at H
    exact absurd H (by simp)
   rw [if_pos c14] at H
   have c14b0 : decide (x5_1 < (l0_0.length : Int)) = true := decide_eq_true c14
   clear c14
   replace H := Option.bind_eq_some_iff.mp H
   obtain ⟨t417, A150, H⟩ := H
   replace H : (spec_l8Choose.j1 k1 a1 x5_1 x6_1 x7_1 t415 (decide (t415 < t417)) l0_0) = some r := H
   have A15 := Aside0.mk A150
   clear A150
   have H' := Aside0.mk H
   clear H
   have hcz16_0 : wr.cell? ⟨gb412, 0, none⟩ = some (.slice (some ad413) l0_0.length c0_0) := (blk_cell BK412.out 0).trans rfl
   have hfz16_0 := blk_frozen BK412.out 0
   have p416 : 0 ≤ (x5_1 : Int) := oda
   have q416 : x5_1 < (l0_0.length : Int) := oda
   obtain ⟨ad416, A416_0, c416_0, e416, hx416_0, hl416_0, hi416_0⟩ := at_L2 HR0_0.out x5_1 p416 q416
   obtain rfl : ad413 = ad416 := (by injection e416)
   replace hx416_0 := cel HB hx416_0
   have HR416_0 := Aside0.mk hi416_0
   have HC416_0 := Aside0.mk hl416_0
   clear hi416_0 hl416_0
   replace p416 := eq_true p416
   replace q416 := eq_true q416
   go_wp2_with (first | (go_at_call 63; (with_reducible refine (spec_l8Earliest.calls k1 _ _ (rd_L2 l0_0 x5_1) t417 _ ?side1 ?side2 A15.out).mono ?_); (case side1 => exact cdl (Kd.C_below HR416_0.out HB.out)); (case side2 => exact HC416_0.out); rintro e w' ⟨rfl, ⟨nd, rfl⟩⟩))
   go_meet
   case rel => exact ⟨_, (decide (t415 < t417)), (by first | rfl | (simp; done) | (simp [*]; done)), H', ⟨by have := HK1.out; first | omega | exact Nat.le_refl _⟩, ⟨bkl BK412⟩, ⟨bel1 HB GE412⟩⟩
  clear HC9
  try clear c1
  try clear p2
  try clear c4
  try clear c4b0
  try clear p4
  try clear q4
  try clear hx4
  try clear c5
  try clear c5b0
  try clear c6
  try clear c6b0
  try clear c6b1
  try clear p6
  try clear c11
  try clear c11b0
  try clear c12
  try clear c12b0
  try clear c13
  try clear c13b0
  try clear c14
  try clear c14b0
  try clear hcz10_0
  try clear hcz16_0
  try clear hcz7_0
  try clear hfz10_0
  try clear hfz16_0
  try clear hfz7_0
  try clear hx413_0
  try clear hx414_0
  try clear hx416_0
  try clear p2
  try clear p413
  try clear p414
  try clear p416
  try clear q413
  try clear q414
  try clear q416
  obtain ⟨kq, x45_8, rfl, HA, HJ8, BK412, HB⟩ := hcut
  cases kq with
  | zero => exact absurd HA.out (by simp [spec_l8Choose.j1])
  | succ kj8 =>
   have H := HA.out
   clear HA
   simp only [spec_l8Choose.j1] at H
   by_cases c17 : x45_8 = true
   ·subst c17
    have H1 : (if x6_1 < 0 then (spec_l8Choose.l0 kj8 a1 x7_1 x7_1 (wrap64 (x7_1 + 1)) l0_0) else (if 0 ≤ x6_1 then (if x6_1 < (l0_0.length : Int) then ((spec_l8Earliest.f kj8 (rd_L2 l0_0 x6_1)).bind fun t419 => (if t415 > t419 then (spec_l8Choose.l0 kj8 a1 x7_1 x7_1 (wrap64 (x7_1 + 1)) l0_0) else (spec_l8Choose.l0 kj8 a1 x7_1 x6_1 (wrap64 (x7_1 + 1)) l0_0))) else (none)) else (none))) = some r := by rw [if_pos rfl] at H; exact H
    clear H
    have H := H1
    clear H1
    by_cases c18 : x6_1 < 0
    ·rw [if_pos c18] at H
     have c18b0 : decide (x6_1 < 0) = true := decide_eq_true c18
     clear c18
     have H' := Aside0.mk H
     clear H
     go_wp2
     go_roundg kj8
     case measure => have := HK1.out; have := HJ8.out; omega
     case rel => exact ⟨(x7_1), (x7_1), (wrap64 (x7_1 + 1)), (by first | rfl | (simp; done) | (simp [*]; done)), (by first | rfl | (simp; done) | (simp [*]; done)), (by first | rfl | (simp; done) | (simp [*]; done)), H', ⟨by have := HK1.out; have := HJ8.out; omega⟩, ⟨bkl BK412⟩, ⟨bel1 HB GE412⟩⟩
    rw [if_neg c18] at H
    have c18b0 : decide (x6_1 < 0) = false := decide_eq_false c18
    clear c18
    by_cases c19 : 0 ≤ x6_1
    rotate_left
    ·rw [if_neg c19] at H
     exact absurd H (by simp)
    rw [if_pos c19] at H
    have c19b0 : decide (0 ≤ x6_1) = true := decide_eq_true c19
    clear c19
    by_cases c20 : x6_1 < (l0_0.length : Int)
    rotate_left
    ·rw [if_neg c20] at H
     exact absurd H (by simp)
    rw [if_pos c20] at H
    have c20b0 : decide (x6_1 < (l0_0.length : Int)) = true := decide_eq_true c20
    clear c20
    replace H := Option.bind_eq_some_iff.mp H
    obtain ⟨t419, A210, H⟩ := H
    replace H : (if t415 > t419 then (spec_l8Choose.l0 kj8 a1 x7_1 x7_1 (wrap64 (x7_1 + 1)) l0_0) else (spec_l8Choose.l0 kj8 a1 x7_1 x6_1 (wrap64 (x7_1 + 1)) l0_0)) = some r := H
    have A21 := Aside0.mk A210
    clear A210
    by_cases c22 : t415 > t419
    ·rw [if_pos c22] at H
     have c22b0 : decide (t419 < t415) = true := decide_eq_true c22
     clear c22
     have H' := Aside0.mk H
     clear H
     have hcz23_0 : wc.cell? ⟨gb412, 0, none⟩ = some (.slice (some ad413) l0_0.length c0_0) := (blk_cell BK412.out 0).trans rfl
     have hfz23_0 := blk_frozen BK412.out 0
     have p418 : 0 ≤ (x6_1 : Int) := oda
     have q418 : x6_1 < (l0_0.length : Int) := oda
     obtain ⟨ad418, A418_0, c418_0, e418, hx418_0, hl418_0, hi418_0⟩ := at_L2 HR0_0.out x6_1 p418 q418
     obtain rfl : ad413 = ad418 := (by injection e418)
     replace hx418_0 := cel HB hx418_0
     have HR418_0 := Aside0.mk hi418_0
     have HC418_0 := Aside0.mk hl418_0
     clear hi418_0 hl418_0
     replace p418 := eq_true p418
     replace q418 := eq_true q418
     go_wp2_with (first | (go_at_call 63; (with_reducible refine (spec_l8Earliest.calls kj8 _ _ (rd_L2 l0_0 x6_1) t419 _ ?side1 ?side2 A21.out).mono ?_); (case side1 => exact cdl (Kd.C_below HR418_0.out HB.out)); (case side2 => exact HC418_0.out); rintro e w' ⟨rfl, ⟨nd, rfl⟩⟩))
     go_roundg kj8
     case measure => have := HK1.out; have := HJ8.out; omega
     case rel => exact ⟨(x7_1), (x7_1), (wrap64 (x7_1 + 1)), (by first | rfl | (simp; done) | (simp [*]; done)), (by first | rfl | (simp; done) | (simp [*]; done)), (by first | rfl | (simp; done) | (simp [*]; done)), H', ⟨by have := HK1.out; have := HJ8.out; omega⟩, ⟨bkl BK412⟩, ⟨bel1 HB GE412⟩⟩
    rw [if_neg c22] at H
    have c22b0 : decide (t419 < t415) = false := decide_eq_false c22
    clear c22
    have H' := Aside0.mk H
    clear H
    have hcz24_0 : wc.cell? ⟨gb412, 0, none⟩ = some (.slice (some ad413) l0_0.length c0_0) := (blk_cell BK412.out 0).trans rfl
    have hfz24_0 := blk_frozen BK412.out 0
    have p418 : 0 ≤ (x6_1 : Int) := oda
    have q418 : x6_1 < (l0_0.length : Int) := oda
    obtain ⟨ad418, A418_0, c418_0, e418, hx418_0, hl418_0, hi418_0⟩ := at_L2 HR0_0.out x6_1 p418 q418
    obtain rfl : ad413 = ad418 := (by injection e418)
    replace hx418_0 := cel HB hx418_0
    have HR418_0 := Aside0.mk hi418_0
    have HC418_0 := Aside0.mk hl418_0
    clear hi418_0 hl418_0
    replace p418 := eq_true p418
    replace q418 := eq_true q418
    go_wp2_with (first | (go_at_call 63; (with_reducible refine (spec_l8Earliest.calls kj8 _ _ (rd_L2 l0_0 x6_1) t419 _ ?side1 ?side2 A21.out).mono ?_); (case side1 => exact cdl (Kd.C_below HR418_0.out HB.out)); (case side2 => exact HC418_0.out); rintro e w' ⟨rfl, ⟨nd, rfl⟩⟩))
    go_roundg kj8
    case measure => have := HK1.out; have := HJ8.out; omega
    case rel => exact ⟨(x7_1), (x6_1), (wrap64 (x7_1 + 1)), (by first | rfl | (simp; done) | (simp [*]; done)), (by first | rfl | (simp; done) | (simp [*]; done)), (by first | rfl | (simp; done) | (simp [*]; done)), H', ⟨by have := HK1.out; have := HJ8.out; omega⟩, ⟨bkl BK412⟩, ⟨bel1 HB GE412⟩⟩
   replace c17 := Bool.eq_false_iff.mpr c17
   subst c17
   have H1 : (if x6_1 < 0 then (spec_l8Choose.l0 kj8 a1 x5_1 x7_1 (wrap64 (x7_1 + 1)) l0_0) else (if 0 ≤ x6_1 then (if x6_1 < (l0_0.length : Int) then ((spec_l8Earliest.f kj8 (rd_L2 l0_0 x6_1)).bind fun t421 => (if t415 > t421 then (spec_l8Choose.l0 kj8 a1 x5_1 x7_1 (wrap64 (x7_1 + 1)) l0_0) else (spec_l8Choose.l0 kj8 a1 x5_1 x6_1 (wrap64 (x7_1 + 1)) l0_0))) else (none)) else (none))) = some r := by rw [if_neg (show ¬ (false = true) by decide)] at H; exact H
   clear H
   have H := H1
   clear H1
   by_cases c25 : x6_1 < 0
   ·rw [if_pos c25] at H
    have c25b0 : decide (x6_1 < 0) = true := decide_eq_true c25
    clear c25
    have H' := Aside0.mk H
    clear H
    go_wp2
    go_roundg kj8
    case measure => have := HK1.out; have := HJ8.out; omega
    case rel => exact ⟨(x5_1), (x7_1), (wrap64 (x7_1 + 1)), (by first | rfl | (simp; done) | (simp [*]; done)), (by first | rfl | (simp; done) | (simp [*]; done)), (by first | rfl | (simp; done) | (simp [*]; done)), H', ⟨by have := HK1.out; have := HJ8.out; omega⟩, ⟨bkl BK412⟩, ⟨bel1 HB GE412⟩⟩
   rw [if_neg c25] at H
   have c25b0 : decide (x6_1 < 0) = false := decide_eq_false c25
   clear c25
   by_cases c26 : 0 ≤ x6_1
   rotate_left
   ·rw [if_neg c26] at H
    exact absurd H (by simp)
   rw [if_pos c26] at H
   have c26b0 : decide (0 ≤ x6_1) = true := decide_eq_true c26
   clear c26
   by_cases c27 : x6_1 < (l0_0.length : Int)
   rotate_left
   ·rw [if_neg c27] at H
    exact absurd H (by simp)
   rw [if_pos c27] at H
   have c27b0 : decide (x6_1 < (l0_0.length : Int)) = true := decide_eq_true c27
   clear c27
   replace H := Option.bind_eq_some_iff.mp H
   obtain ⟨t421, A280, H⟩ := H
   replace H : (if t415 > t421 then (spec_l8Choose.l0 kj8 a1 x5_1 x7_1 (wrap64 (x7_1 + 1)) l0_0) else (spec_l8Choose.l0 kj8 a1 x5_1 x6_1 (wrap64 (x7_1 + 1)) l0_0)) = some r := H
   have A28 := Aside0.mk A280
   clear A280
   by_cases c29 : t415 > t421
   ·rw [if_pos c29] at H
    have c29b0 : decide (t421 < t415) = true := decide_eq_true c29
    clear c29
    have H' := Aside0.mk H
    clear H
    have hcz30_0 : wc.cell? ⟨gb412, 0, none⟩ = some (.slice (some ad413) l0_0.length c0_0) := (blk_cell BK412.out 0).trans rfl
    have hfz30_0 := blk_frozen BK412.out 0
    have p420 : 0 ≤ (x6_1 : Int) := oda
    have q420 : x6_1 < (l0_0.length : Int) := oda
    obtain ⟨ad420, A420_0, c420_0, e420, hx420_0, hl420_0, hi420_0⟩ := at_L2 HR0_0.out x6_1 p420 q420
    obtain rfl : ad413 = ad420 := (by injection e420)
    replace hx420_0 := cel HB hx420_0
    have HR420_0 := Aside0.mk hi420_0
    have HC420_0 := Aside0.mk hl420_0
    clear hi420_0 hl420_0
    replace p420 := eq_true p420
    replace q420 := eq_true q420
    go_wp2_with (first | (go_at_call 63; (with_reducible refine (spec_l8Earliest.calls kj8 _ _ (rd_L2 l0_0 x6_1) t421 _ ?side1 ?side2 A28.out).mono ?_); (case side1 => exact cdl (Kd.C_below HR420_0.out HB.out)); (case side2 => exact HC420_0.out); rintro e w' ⟨rfl, ⟨nd, rfl⟩⟩))
    go_roundg kj8
    case measure => have := HK1.out; have := HJ8.out; omega
    case rel => exact ⟨(x5_1), (x7_1), (wrap64 (x7_1 + 1)), (by first | rfl | (simp; done) | (simp [*]; done)), (by first | rfl | (simp; done) | (simp [*]; done)), (by first | rfl | (simp; done) | (simp [*]; done)), H', ⟨by have := HK1.out; have := HJ8.out; omega⟩, ⟨bkl BK412⟩, ⟨bel1 HB GE412⟩⟩
   rw [if_neg c29] at H
   have c29b0 : decide (t421 < t415) = false := decide_eq_false c29
   clear c29
   have H' := Aside0.mk H
   clear H
   have hcz31_0 : wc.cell? ⟨gb412, 0, none⟩ = some (.slice (some ad413) l0_0.length c0_0) := (blk_cell BK412.out 0).trans rfl
   have hfz31_0 := blk_frozen BK412.out 0
   have p420 : 0 ≤ (x6_1 : Int) := oda
   have q420 : x6_1 < (l0_0.length : Int) := oda
   obtain ⟨ad420, A420_0, c420_0, e420, hx420_0, hl420_0, hi420_0⟩ := at_L2 HR0_0.out x6_1 p420 q420
   obtain rfl : ad413 = ad420 := (by injection e420)
   replace hx420_0 := cel HB hx420_0
   have HR420_0 := Aside0.mk hi420_0
   have HC420_0 := Aside0.mk hl420_0
   clear hi420_0 hl420_0
   replace p420 := eq_true p420
   replace q420 := eq_true q420
   go_wp2_with (first | (go_at_call 63; (with_reducible refine (spec_l8Earliest.calls kj8 _ _ (rd_L2 l0_0 x6_1) t421 _ ?side1 ?side2 A28.out).mono ?_); (case side1 => exact cdl (Kd.C_below HR420_0.out HB.out)); (case side2 => exact HC420_0.out); rintro e w' ⟨rfl, ⟨nd, rfl⟩⟩))
   go_roundg kj8
   case measure => have := HK1.out; have := HJ8.out; omega
   case rel => exact ⟨(x5_1), (x6_1), (wrap64 (x7_1 + 1)), (by first | rfl | (simp; done) | (simp [*]; done)), (by first | rfl | (simp; done) | (simp [*]; done)), (by first | rfl | (simp; done) | (simp [*]; done)), H', ⟨by have := HK1.out; have := HJ8.out; omega⟩, ⟨bkl BK412⟩, ⟨bel1 HB GE412⟩⟩
/-! ### spec_ChooseStack: function 17 -/
def spec_ChooseStack.f (k : Nat) (l0_0 : List (List Int)) (a1 : Int) : Option (Int × Bool) := (spec_l8Asked.f k l0_0 (([a1] : List Int))).bind fun t426 => (if t426 = true then ((spec_l8Choose.f k l0_0 a1).bind fun t427 => (if t427 < 0 then (some (0, false)) else ((spec_l8Choose.f k l0_0 a1).bind fun t428 => (some (t428, true))))) else (some (0, false)))
theorem spec_ChooseStack.mono : ∀ a0 a1 k, LeO (spec_ChooseStack.f k a0 a1) (spec_ChooseStack.f (k + 1) a0 a1) := by
 intro a0 a1 k
 unfold spec_ChooseStack.f
 repeat' first
   | (with_reducible exact spec_l8Asked.mono _ _ _)
   | (with_reducible exact spec_l8Choose.mono _ _ _)
   | (with_reducible exact LeO.refl _)
   | (with_reducible exact LeO.none _)
   | (with_reducible refine LeO.ite ?_ ?_)
   | (with_reducible refine LeO.bind ?_ (fun _ => ?_))
   | exact spec_l8Asked.mono _ _ _
   | exact spec_l8Choose.mono _ _ _
   | exact LeO.none _
   | refine LeO.ite ?_ ?_
   | refine LeO.bind ?_ (fun _ => ?_)
set_option maxHeartbeats 8000000 in
set_option maxRecDepth 100000 in
theorem spec_ChooseStack.calls (k : Nat) (A0_0 : Option Addr) (c0_0 : Nat) (l0_0 : List (List Int)) (a1 : Int) (r1 : Int) (r2 : Bool) (w : World) (hr0_0 : Kd.C (Kd.slice 3 (Kd.int .i64)) w A0_0 l0_0.length l0_0) (hc0_0 : l0_0.length ≤ c0_0) (h : spec_ChooseStack.f k l0_0 a1 = some (r1, r2)) :
  Calls Try.prog 17 #[.agg #[.slice A0_0 l0_0.length c0_0], .int .i64 a1] w fun e w' => e = .returned (.tuple #[.int .i64 r1, .bool r2]) ∧ Below w.heap.size w w' := by
 have hu26 := Try.underlying26
 have HR0_0 := Aside0.mk hr0_0
 have HC0_0 := Aside0.mk hc0_0
 clear hr0_0 hc0_0
 have HB := Aside0.mk (Below.refl w.heap.size w)
 have H : ((spec_l8Asked.f k l0_0 (([a1] : List Int))).bind fun t426 => (if t426 = true then ((spec_l8Choose.f k l0_0 a1).bind fun t427 => (if t427 < 0 then (some (0, false)) else ((spec_l8Choose.f k l0_0 a1).bind fun t428 => (some (t428, true))))) else (some (0, false)))) = some (r1, r2) := h
 clear h
 obtain ⟨y423, hy423⟩ : ∃ y_ : List Int, y_ = (([a1] : List Int)) := ⟨_, rfl⟩
 replace H : ((spec_l8Asked.f k l0_0 y423).bind fun t426 => (if t426 = true then ((spec_l8Choose.f k l0_0 a1).bind fun t427 => (if t427 < 0 then (some (0, false)) else ((spec_l8Choose.f k l0_0 a1).bind fun t428 => (some (t428, true))))) else (some (0, false)))) = some (r1, r2) := by first | (rw [hy423]; with_reducible exact H) | (have H2_ := (Option.bind_some _ _).symm.trans H; rw [hy423]; with_reducible exact H2_) | (have H2_ := (Option.bind_some _ _).symm.trans H; with_reducible exact H2_) | with_reducible exact H | (rw [hy423]; exact H) | exact H
 have Ny423 := Aside0.mk hy423
 clear hy423
 replace H := Option.bind_eq_some_iff.mp H
 obtain ⟨t426, A30, H⟩ := H
 replace H : (if t426 = true then ((spec_l8Choose.f k l0_0 a1).bind fun t427 => (if t427 < 0 then (some (0, false)) else ((spec_l8Choose.f k l0_0 a1).bind fun t428 => (some (t428, true))))) else (some (0, false))) = some (r1, r2) := H
 have A3 := Aside0.mk A30
 clear A30
 by_cases c4 : t426 = true
 rotate_left
 ·replace c4 := Bool.eq_false_iff.mpr c4
  subst c4
  have H1 : (some (0, false)) = some (r1, r2) := by rw [if_neg (show ¬ (false = true) by decide)] at H; exact H
  clear H
  have H := H1
  clear H1
  simp only [Option.some.injEq, Prod.mk.injEq] at H
  obtain ⟨rfl, rfl⟩ := H
  go_enter Try.func17, Try.ntmps17
  go_wp2_with (first | ((with_reducible refine gate_dst (N := 2) rfl ?_); refine box_event ?hg (N := 2) ?hd (cs := #[.slice A0_0 l0_0.length c0_0]) (t := 26) ?hr ?_; (case hd => rfl); (case hg => rfl); (case hr => first | (go_simp; done) | (go_simp; rfl)); intro gb422 hg w26 hbox hb; have n0_ := Aside0.mk (below_step (bel HB) hb); have n1_ := Aside0.mk (hbox); have n2_ := Aside0.mk ((by rw [hg]; exact (below_size (bel HB)) : w.heap.size ≤ gb422)); have n3_ := Aside0.mk ((by rw [hg]; exact (below_size (bel HB)) : w.heap.size ≤ gb422)); clear HB; have HB := n0_; have BK422 := n1_; have GW422 := n2_; have GE422 := n3_; clear n0_ n1_ n2_ n3_; clear hb hbox hg; have hcz27_0 : w26.cell? ⟨gb422, 0, none⟩ = some (.slice A0_0 l0_0.length c0_0) := (blk_cell BK422.out 0).trans rfl; have hfz27_0 := blk_frozen BK422.out 0) | ((with_reducible refine gate_dst (N := 8) rfl ?_); refine Kd.R_lit (Kd.int .i64) _ 3 ?hg (N := 8) ?hd (xs := ([a1] : List Int)) (inner := [.int .i64 a1]) (ok := fun _ => True) (okp := fun _ => True) ?hr ?hp (fun _ hk => hk) trivial (Below.refl _ _) (Nat.le_refl _) (by simp) ?_; (case hd => rfl); (case hg => rfl); (case hr => first | (go_simp; done) | (go_simp; rfl)); (case hp => exact (Reps.one (show Kd.M (Kd.int .i64) _ _ _ a1 [.int .i64 a1] from rfl) (Reps.none _ _))); intro v424 w28 ho29 hb hg_ hnew_; clear hg_ hnew_; (first | rw [← Ny423.out] at ho29 | (simp only [Int.reduceToNat] at ho29; rw [← Ny423.out] at ho29)); have n0_ := Aside0.mk (Kd.R_lower ho29 (below_size (bel1 HB GE422))); have n1_ := Aside0.mk (blk_below (g := gb422) (o := .cells #[.slice A0_0 l0_0.length c0_0] 26 (0, 0)) (bkl BK422) hb); have n2_ := Aside0.mk (below_step (bel1 HB GE422) hb); clear BK422; clear HB; have HO425 := n0_; have BK422 := n1_; have HB := n2_; clear n0_ n1_ n2_; clear hb ho29; obtain ⟨Ao30, co30, eo30⟩ := Kd.R_slice HO425.out; subst eo30) | ((with_reducible refine gate_callee (f := 39) rfl ?_); refine goesL_ (some 9) rfl rfl Try.func39 (by kernel_rfl) rfl #[.agg #[.slice A0_0 l0_0.length c0_0], .slice Ao30 y423.length co30] rfl gmp ?_; (with_reducible refine (spec_l8Asked.calls k _ _ l0_0 _ _ y423 false _ ?side1 ?side2 ?side3 ?side4 A3.out).mono ?_); (case side1 => exact cdl (Kd.C_below HR0_0.out HB.out)); (case side2 => exact HC0_0.out); (case side3 => exact cdl (Kd.R_reads' HO425.out).2.2); (case side4 => exact (Kd.R_reads' HO425.out).2.1); rintro e w31 ⟨rfl, hb⟩; refine ⟨_, rfl, ?_⟩; have n0_ := Aside0.mk (Kd.R_below (rdl HO425) hb); have n1_ := Aside0.mk (blk_below (g := gb422) (o := .cells #[.slice A0_0 l0_0.length c0_0] 26 (0, 0)) (bkl BK422) hb); have n2_ := Aside0.mk (below_step (bel1 HB GE422) hb); clear HO425; clear BK422; clear HB; have HO425 := n0_; have BK422 := n1_; have HB := n2_; clear n0_ n1_ n2_; (try clear hb); (try clear hb2); (try clear hk); (try clear hi)))
  go_ret2
  exact ⟨by first | rfl | (simp [errW_none, errW_some] <;> rfl) | (simp [*, errW_none, errW_some] <;> rfl), bel1 HB GE422⟩
 subst c4
 have H1 : ((spec_l8Choose.f k l0_0 a1).bind fun t427 => (if t427 < 0 then (some (0, false)) else ((spec_l8Choose.f k l0_0 a1).bind fun t428 => (some (t428, true))))) = some (r1, r2) := by rw [if_pos rfl] at H; exact H
 clear H
 have H := H1
 clear H1
 replace H := Option.bind_eq_some_iff.mp H
 obtain ⟨t427, A50, H⟩ := H
 replace H : (if t427 < 0 then (some (0, false)) else ((spec_l8Choose.f k l0_0 a1).bind fun t428 => (some (t428, true)))) = some (r1, r2) := H
 have A5 := Aside0.mk A50
 clear A50
 by_cases c6 : t427 < 0
 ·rw [if_pos c6] at H
  have c6b0 : decide (t427 < 0) = true := decide_eq_true c6
  clear c6
  simp only [Option.some.injEq, Prod.mk.injEq] at H
  obtain ⟨rfl, rfl⟩ := H
  go_enter Try.func17, Try.ntmps17
  go_wp2_with (first | ((with_reducible refine gate_dst (N := 2) rfl ?_); refine box_event ?hg (N := 2) ?hd (cs := #[.slice A0_0 l0_0.length c0_0]) (t := 26) ?hr ?_; (case hd => rfl); (case hg => rfl); (case hr => first | (go_simp; done) | (go_simp; rfl)); intro gb422 hg w7 hbox hb; have n0_ := Aside0.mk (below_step (bel HB) hb); have n1_ := Aside0.mk (hbox); have n2_ := Aside0.mk ((by rw [hg]; exact (below_size (bel HB)) : w.heap.size ≤ gb422)); have n3_ := Aside0.mk ((by rw [hg]; exact (below_size (bel HB)) : w.heap.size ≤ gb422)); clear HB; have HB := n0_; have BK422 := n1_; have GW422 := n2_; have GE422 := n3_; clear n0_ n1_ n2_ n3_; clear hb hbox hg; have hcz8_0 : w7.cell? ⟨gb422, 0, none⟩ = some (.slice A0_0 l0_0.length c0_0) := (blk_cell BK422.out 0).trans rfl; have hfz8_0 := blk_frozen BK422.out 0) | ((with_reducible refine gate_dst (N := 8) rfl ?_); refine Kd.R_lit (Kd.int .i64) _ 3 ?hg (N := 8) ?hd (xs := ([a1] : List Int)) (inner := [.int .i64 a1]) (ok := fun _ => True) (okp := fun _ => True) ?hr ?hp (fun _ hk => hk) trivial (Below.refl _ _) (Nat.le_refl _) (by simp) ?_; (case hd => rfl); (case hg => rfl); (case hr => first | (go_simp; done) | (go_simp; rfl)); (case hp => exact (Reps.one (show Kd.M (Kd.int .i64) _ _ _ a1 [.int .i64 a1] from rfl) (Reps.none _ _))); intro v424 w9 ho10 hb hg_ hnew_; clear hg_ hnew_; (first | rw [← Ny423.out] at ho10 | (simp only [Int.reduceToNat] at ho10; rw [← Ny423.out] at ho10)); have n0_ := Aside0.mk (Kd.R_lower ho10 (below_size (bel1 HB GE422))); have n1_ := Aside0.mk (blk_below (g := gb422) (o := .cells #[.slice A0_0 l0_0.length c0_0] 26 (0, 0)) (bkl BK422) hb); have n2_ := Aside0.mk (below_step (bel1 HB GE422) hb); clear BK422; clear HB; have HO425 := n0_; have BK422 := n1_; have HB := n2_; clear n0_ n1_ n2_; clear hb ho10; obtain ⟨Ao11, co11, eo11⟩ := Kd.R_slice HO425.out; subst eo11) | ((with_reducible refine gate_callee (f := 39) rfl ?_); refine goesL_ (some 9) rfl rfl Try.func39 (by kernel_rfl) rfl #[.agg #[.slice A0_0 l0_0.length c0_0], .slice Ao11 y423.length co11] rfl gmp ?_; (with_reducible refine (spec_l8Asked.calls k _ _ l0_0 _ _ y423 true _ ?side1 ?side2 ?side3 ?side4 A3.out).mono ?_); (case side1 => exact cdl (Kd.C_below HR0_0.out HB.out)); (case side2 => exact HC0_0.out); (case side3 => exact cdl (Kd.R_reads' HO425.out).2.2); (case side4 => exact (Kd.R_reads' HO425.out).2.1); rintro e w12 ⟨rfl, hb⟩; refine ⟨_, rfl, ?_⟩; have n0_ := Aside0.mk (Kd.R_below (rdl HO425) hb); have n1_ := Aside0.mk (blk_below (g := gb422) (o := .cells #[.slice A0_0 l0_0.length c0_0] 26 (0, 0)) (bkl BK422) hb); have n2_ := Aside0.mk (below_step (bel1 HB GE422) hb); clear HO425; clear BK422; clear HB; have HO425 := n0_; have BK422 := n1_; have HB := n2_; clear n0_ n1_ n2_; (try clear hb); (try clear hb2); (try clear hk); (try clear hi); have hcz13_0 : w12.cell? ⟨gb422, 0, none⟩ = some (.slice A0_0 l0_0.length c0_0) := (blk_cell BK422.out 0).trans rfl; have hfz13_0 := blk_frozen BK422.out 0) | (go_at_call 40; (with_reducible refine (spec_l8Choose.calls k _ _ l0_0 a1 t427 _ ?side1 ?side2 A5.out).mono ?_); (case side1 => exact cdl (Kd.C_below HR0_0.out HB.out)); (case side2 => exact HC0_0.out); rintro e w14 ⟨rfl, hb⟩; have n0_ := Aside0.mk (Kd.R_below (rdl HO425) hb); have n1_ := Aside0.mk (blk_below (g := gb422) (o := .cells #[.slice A0_0 l0_0.length c0_0] 26 (0, 0)) (bkl BK422) hb); have n2_ := Aside0.mk (below_step (bel1 HB GE422) hb); clear HO425; clear BK422; clear HB; have HO425 := n0_; have BK422 := n1_; have HB := n2_; clear n0_ n1_ n2_; (try clear hb); (try clear hb2); (try clear hk); (try clear hi)))
  go_ret2
  exact ⟨by first | rfl | (simp [errW_none, errW_some] <;> rfl) | (simp [*, errW_none, errW_some] <;> rfl), bel1 HB GE422⟩
 rw [if_neg c6] at H
 have c6b0 : decide (t427 < 0) = false := decide_eq_false c6
 clear c6
 replace H := Option.bind_eq_some_iff.mp H
 obtain ⟨t428, A150, H⟩ := H
 replace H : (some (t428, true)) = some (r1, r2) := H
 have A15 := Aside0.mk A150
 clear A150
 simp only [Option.some.injEq, Prod.mk.injEq] at H
 obtain ⟨rfl, rfl⟩ := H
 go_enter Try.func17, Try.ntmps17
 go_wp2_with (first | ((with_reducible refine gate_dst (N := 2) rfl ?_); refine box_event ?hg (N := 2) ?hd (cs := #[.slice A0_0 l0_0.length c0_0]) (t := 26) ?hr ?_; (case hd => rfl); (case hg => rfl); (case hr => first | (go_simp; done) | (go_simp; rfl)); intro gb422 hg w16 hbox hb; have n0_ := Aside0.mk (below_step (bel HB) hb); have n1_ := Aside0.mk (hbox); have n2_ := Aside0.mk ((by rw [hg]; exact (below_size (bel HB)) : w.heap.size ≤ gb422)); have n3_ := Aside0.mk ((by rw [hg]; exact (below_size (bel HB)) : w.heap.size ≤ gb422)); clear HB; have HB := n0_; have BK422 := n1_; have GW422 := n2_; have GE422 := n3_; clear n0_ n1_ n2_ n3_; clear hb hbox hg; have hcz17_0 : w16.cell? ⟨gb422, 0, none⟩ = some (.slice A0_0 l0_0.length c0_0) := (blk_cell BK422.out 0).trans rfl; have hfz17_0 := blk_frozen BK422.out 0) | ((with_reducible refine gate_dst (N := 8) rfl ?_); refine Kd.R_lit (Kd.int .i64) _ 3 ?hg (N := 8) ?hd (xs := ([a1] : List Int)) (inner := [.int .i64 a1]) (ok := fun _ => True) (okp := fun _ => True) ?hr ?hp (fun _ hk => hk) trivial (Below.refl _ _) (Nat.le_refl _) (by simp) ?_; (case hd => rfl); (case hg => rfl); (case hr => first | (go_simp; done) | (go_simp; rfl)); (case hp => exact (Reps.one (show Kd.M (Kd.int .i64) _ _ _ a1 [.int .i64 a1] from rfl) (Reps.none _ _))); intro v424 w18 ho19 hb hg_ hnew_; clear hg_ hnew_; (first | rw [← Ny423.out] at ho19 | (simp only [Int.reduceToNat] at ho19; rw [← Ny423.out] at ho19)); have n0_ := Aside0.mk (Kd.R_lower ho19 (below_size (bel1 HB GE422))); have n1_ := Aside0.mk (blk_below (g := gb422) (o := .cells #[.slice A0_0 l0_0.length c0_0] 26 (0, 0)) (bkl BK422) hb); have n2_ := Aside0.mk (below_step (bel1 HB GE422) hb); clear BK422; clear HB; have HO425 := n0_; have BK422 := n1_; have HB := n2_; clear n0_ n1_ n2_; clear hb ho19; obtain ⟨Ao20, co20, eo20⟩ := Kd.R_slice HO425.out; subst eo20) | ((with_reducible refine gate_callee (f := 39) rfl ?_); refine goesL_ (some 9) rfl rfl Try.func39 (by kernel_rfl) rfl #[.agg #[.slice A0_0 l0_0.length c0_0], .slice Ao20 y423.length co20] rfl gmp ?_; (with_reducible refine (spec_l8Asked.calls k _ _ l0_0 _ _ y423 true _ ?side1 ?side2 ?side3 ?side4 A3.out).mono ?_); (case side1 => exact cdl (Kd.C_below HR0_0.out HB.out)); (case side2 => exact HC0_0.out); (case side3 => exact cdl (Kd.R_reads' HO425.out).2.2); (case side4 => exact (Kd.R_reads' HO425.out).2.1); rintro e w21 ⟨rfl, hb⟩; refine ⟨_, rfl, ?_⟩; have n0_ := Aside0.mk (Kd.R_below (rdl HO425) hb); have n1_ := Aside0.mk (blk_below (g := gb422) (o := .cells #[.slice A0_0 l0_0.length c0_0] 26 (0, 0)) (bkl BK422) hb); have n2_ := Aside0.mk (below_step (bel1 HB GE422) hb); clear HO425; clear BK422; clear HB; have HO425 := n0_; have BK422 := n1_; have HB := n2_; clear n0_ n1_ n2_; (try clear hb); (try clear hb2); (try clear hk); (try clear hi); have hcz22_0 : w21.cell? ⟨gb422, 0, none⟩ = some (.slice A0_0 l0_0.length c0_0) := (blk_cell BK422.out 0).trans rfl; have hfz22_0 := blk_frozen BK422.out 0) | (go_at_call 40; (with_reducible refine (spec_l8Choose.calls k _ _ l0_0 a1 t427 _ ?side1 ?side2 A5.out).mono ?_); (case side1 => exact cdl (Kd.C_below HR0_0.out HB.out)); (case side2 => exact HC0_0.out); rintro e w23 ⟨rfl, hb⟩; have n0_ := Aside0.mk (Kd.R_below (rdl HO425) hb); have n1_ := Aside0.mk (blk_below (g := gb422) (o := .cells #[.slice A0_0 l0_0.length c0_0] 26 (0, 0)) (bkl BK422) hb); have n2_ := Aside0.mk (below_step (bel1 HB GE422) hb); clear HO425; clear BK422; clear HB; have HO425 := n0_; have BK422 := n1_; have HB := n2_; clear n0_ n1_ n2_; (try clear hb); (try clear hb2); (try clear hk); (try clear hi); have hcz24_0 : w23.cell? ⟨gb422, 0, none⟩ = some (.slice A0_0 l0_0.length c0_0) := (blk_cell BK422.out 0).trans rfl; have hfz24_0 := blk_frozen BK422.out 0) | ((with_reducible refine gate_callee (f := 40) rfl ?_); refine goesL_ (some 19) rfl rfl Try.func40 (by kernel_rfl) rfl #[.agg #[.slice A0_0 l0_0.length c0_0], .int .i64 a1] rfl gmp ?_; (with_reducible refine (spec_l8Choose.calls k _ _ l0_0 a1 t428 _ ?side1 ?side2 A15.out).mono ?_); (case side1 => exact cdl (Kd.C_below HR0_0.out HB.out)); (case side2 => exact HC0_0.out); rintro e w25 ⟨rfl, hb⟩; refine ⟨_, rfl, ?_⟩; have n0_ := Aside0.mk (Kd.R_below (rdl HO425) hb); have n1_ := Aside0.mk (blk_below (g := gb422) (o := .cells #[.slice A0_0 l0_0.length c0_0] 26 (0, 0)) (bkl BK422) hb); have n2_ := Aside0.mk (below_step (bel1 HB GE422) hb); clear HO425; clear BK422; clear HB; have HO425 := n0_; have BK422 := n1_; have HB := n2_; clear n0_ n1_ n2_; (try clear hb); (try clear hb2); (try clear hk); (try clear hi)))
 go_ret2
 exact ⟨by first | rfl | (simp [errW_none, errW_some] <;> rfl) | (simp [*, errW_none, errW_some] <;> rfl), bel1 HB GE422⟩
end Go.Proofs.Ytmggkimmnekhcaa.P
