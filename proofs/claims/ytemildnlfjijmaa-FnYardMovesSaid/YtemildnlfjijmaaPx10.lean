-- Written by a program of this session over the translation (a variant of the printer, see wip/gen); Lean checks it.
import Derived.Test.YtemildnlfjijmaaVC
import Derived.Test.YtemildnlfjijmaaPx0
namespace Go.Proofs.Ytemildnlfjijmaa.P
open Go.RowKit Go.Proofs.YtemildnlfjijmaaW.PrintWords Go.Proofs.YtemildnlfjijmaaW.PrintLast Go.Proofs.YtemildnlfjijmaaW.PrintMore
attribute [local go_sem] Go.Proofs.Ytemildnlfjijmaa.V.isSome_setCell max2_int min2_int max_two min_two max_three min_three max_four min_four
set_option linter.unusedVariables false
set_option linter.unusedSimpArgs false
/-! ### slices_Index_int_int: function 37 -/
def slices_Index_int_int.l0 : Nat → List Int → Int → Int → Int → Option (Int)
 | 0, _, _, _, _ => none
 | k + 1, x0, x1, x7, x8 => if x8 < x7 then (if 0 ≤ x8 then (if x8 < (x0.length : Int) then (if x1 = (rd x0 x8) then (some x8) else (slices_Index_int_int.l0 k x0 x1 x7 (wrap64 (x8 + 1)))) else (none)) else (none)) else (some (-1))
def slices_Index_int_int.f (k : Nat) (l0 : List Int) (a1 : Int) : Option (Int) := slices_Index_int_int.l0 k l0 a1 (l0.length : Int) 0
set_option maxHeartbeats 8000000 in
set_option maxRecDepth 100000 in
theorem slices_Index_int_int.calls (k : Nat) (A0 : Option Addr) (c0 : Nat) (l0 : List Int) (a1 : Int) (r : Int) (w : World) (hr0 : Kd.C (Kd.int .i64) w A0 l0.length l0) (hc0 : l0.length ≤ c0) (h : slices_Index_int_int.f k l0 a1 = some r) :
  Calls Try.prog 37 #[.slice A0 l0.length c0, .int .i64 a1] w fun e w' => e = .returned (.int .i64 r) ∧ Drawn0 w w' := by
 have HR0 := Aside0.mk hr0
 have HC0 := Aside0.mk hc0
 clear hr0 hc0
 have H : (slices_Index_int_int.l0 k l0 a1 (l0.length : Int) 0) = some r := h
 clear h
 have H' := Aside0.mk H
 clear H
 go_enter Try.func37, Try.ntmps37
 go_wp2
 go_loopg [8] k (fun kq v8 w' => ∃ (x8_1 : Int), v8 = .int .i64 x8_1 ∧ Aside0 (slices_Index_int_int.l0 kq l0 a1 (l0.length : Int) x8_1 = some r) ∧ Aside0 (kq ≤ k) ∧ Drawn0 w w')
 case atStart => exact ⟨(0), (by rfl ), H', ⟨Nat.le_refl _⟩, by repeat (exact Drawn0.refl _ )⟩
 clear H'
 obtain ⟨x8_1, rfl, HA, HK1, ⟨m1, rfl⟩⟩ := hrel
 cases gk with
 | zero => exact absurd HA.out (by simp [slices_Index_int_int.l0])
 | succ k1 =>
  have H := HA.out
  clear HA
  simp only [slices_Index_int_int.l0] at H
  by_cases c3 : x8_1 < (l0.length : Int)
  rotate_left
  ·rw [if_neg c3] at H
   have c3b0 : decide (x8_1 < (l0.length : Int)) = false := decide_eq_false c3
   clear c3
   obtain rfl := Option.some.inj H
   go_wp2
   go_ret
   exact ⟨by rfl , by repeat (first | exact Drawn0.refl _ | apply Drawn0.step)⟩
  rw [if_pos c3] at H
  have c3b0 : decide (x8_1 < (l0.length : Int)) = true := decide_eq_true c3
  clear c3
  by_cases c4 : 0 ≤ x8_1
  rotate_left
  ·rw [if_neg c4] at H
   exact absurd H (by simp)
  rw [if_pos c4] at H
  have c4b0 : decide (0 ≤ x8_1) = true := decide_eq_true c4
  clear c4
  by_cases c5 : x8_1 < (l0.length : Int)
  rotate_left
  ·rw [if_neg c5] at H
   exact absurd H (by simp)
  rw [if_pos c5] at H
  have c5b0 : decide (x8_1 < (l0.length : Int)) = true := decide_eq_true c5
  clear c5
  by_cases c6 : a1 = (rd l0 x8_1)
  ·rw [if_pos c6] at H
   have c6b0 : (a1 == (rd l0 x8_1)) = true := beq_iff_eq.mpr c6
   have c6b1 : (a1 != (rd l0 x8_1)) = false := bne_eq_false_iff_eq.mpr c6
   clear c6
   obtain rfl := Option.some.inj H
   have p406 : 0 ≤ (x8_1 : Int) := oda
   have q406 : x8_1 < (l0.length : Int) := oda
   obtain ⟨ad406, e406, hx406_0⟩ := Kd.at_int HR0.out x8_1 p406 q406
   cases e406
   replace p406 := eq_true p406
   replace q406 := eq_true q406
   go_wp2
   go_ret
   exact ⟨by rfl , by repeat (first | exact Drawn0.refl _ | apply Drawn0.step)⟩
  rw [if_neg c6] at H
  have c6b0 : (a1 == (rd l0 x8_1)) = false := beq_eq_false_iff_ne.mpr c6
  have c6b1 : (a1 != (rd l0 x8_1)) = true := bne_iff_ne.mpr c6
  have H' := Aside0.mk H
  clear H
  have p406 : 0 ≤ (x8_1 : Int) := oda
  have q406 : x8_1 < (l0.length : Int) := oda
  obtain ⟨ad406, e406, hx406_0⟩ := Kd.at_int HR0.out x8_1 p406 q406
  cases e406
  replace p406 := eq_true p406
  replace q406 := eq_true q406
  go_wp2
  go_roundg k1
  case measure => have := HK1.out; omega
  case rel => exact ⟨(wrap64 (x8_1 + 1)), (by rfl ), H', ⟨by have := HK1.out; omega⟩, by repeat (first | exact Drawn0.refl _ | apply Drawn0.step)⟩
/-! ### impl_placeOf: function 19 -/
def impl_placeOf.l0 : Nat → Int → List (List Int) → Int → Int → Option (Int × Int)
 | 0, _, _, _, _ => none
 | k + 1, x1, x10, x11, x12 => if x12 < x11 then (if 0 ≤ x12 then (if x12 < (x10.length : Int) then ((slices_Index_int_int.f k (rd_L4 x10 x12) x1).bind fun t409 => (if t409 ≥ 0 then (some (x12, t409)) else (impl_placeOf.l0 k x1 x10 x11 (wrap64 (x12 + 1))))) else (none)) else (none)) else (some ((-1), (-1)))
def impl_placeOf.f (k : Nat) (l0_0 : List (List Int)) (a1 : Int) : Option (Int × Int) := impl_placeOf.l0 k a1 l0_0 (l0_0.length : Int) 0
set_option maxHeartbeats 8000000 in
set_option maxRecDepth 100000 in
theorem impl_placeOf.calls (k : Nat) (A0_0 : Option Addr) (c0_0 : Nat) (l0_0 : List (List Int)) (a1 : Int) (r1 : Int) (r2 : Int) (w : World) (hr0_0 : Kd.C (Kd.slice 3 (Kd.int .i64)) w A0_0 l0_0.length l0_0) (hc0_0 : l0_0.length ≤ c0_0) (h : impl_placeOf.f k l0_0 a1 = some (r1, r2)) :
  Calls Try.prog 19 #[.agg #[.slice A0_0 l0_0.length c0_0], .int .i64 a1] w fun e w' => e = .returned (.tuple #[.int .i64 r1, .int .i64 r2]) ∧ Below w.heap.size w w' := by
 have hu26 := Try.underlying26
 have HR0_0 := Aside0.mk hr0_0
 have HC0_0 := Aside0.mk hc0_0
 clear hr0_0 hc0_0
 have HB := Aside0.mk (Below.refl w.heap.size w)
 have H : (impl_placeOf.l0 k a1 l0_0 (l0_0.length : Int) 0) = some (r1, r2) := h
 clear h
 have H' := Aside0.mk H
 clear H
 go_enter Try.func19, Try.ntmps19
 go_wp2_with (first | ((with_reducible refine gate_dst (N := 2) rfl ?_); refine box_event ?hg (N := 2) ?hd (cs := #[.slice A0_0 l0_0.length c0_0]) (t := 26) ?hr ?_; (case hd | hg => rfl); (case hr => go_simp); intro gb407 hg w3 hbox hb; have BK407 := Aside0.mk (hbox); have GW407 := gsb (w := w) hg (bel HB); have GE407 := gsb (w := w) hg (bel HB); replace HB := Aside0.mk (below_step (bel HB) hb); clear hb hbox hg; have hcz4_0 := bc BK407 0; have hfz4_0 := blk_frozen BK407.out 0))
 go_loopg [12] k (fun kq v12 w' => ∃ (x12_1 : Int), v12 = .int .i64 x12_1 ∧ Aside0 (impl_placeOf.l0 kq a1 l0_0 (l0_0.length : Int) x12_1 = some (r1, r2)) ∧ Aside0 (kq ≤ k) ∧ Aside0 (w'.heap[gb407]? = some (.cells #[(.slice A0_0 l0_0.length c0_0)] 26 (0, 0))) ∧ Aside0 (Below w.heap.size w w'))
 case atStart => exact ⟨(0), (by rfl ), H', ⟨Nat.le_refl _⟩, ⟨bkl BK407⟩, ⟨bel1 HB GE407⟩⟩
 clear H'
 try clear hcz4_0
 try clear hfz4_0
 obtain ⟨x12_1, rfl, HA, HK1, BK407, HB⟩ := hrel
 cases gk with
 | zero => exact absurd HA.out (by simp [impl_placeOf.l0])
 | succ k1 =>
  have H := HA.out
  clear HA
  simp only [impl_placeOf.l0] at H
  by_cases c5 : x12_1 < (l0_0.length : Int)
  rotate_left
  ·rw [if_neg c5] at H
   have c5b0 : decide (x12_1 < (l0_0.length : Int)) = false := decide_eq_false c5
   clear c5
   simp only [Option.some.injEq, Prod.mk.injEq] at H
   obtain ⟨rfl, rfl⟩ := H
   go_wp2
   go_ret2
   exact ⟨by rfl , bel1 HB GE407⟩
  rw [if_pos c5] at H
  have c5b0 : decide (x12_1 < (l0_0.length : Int)) = true := decide_eq_true c5
  clear c5
  by_cases c6 : 0 ≤ x12_1
  rotate_left
  ·rw [if_neg c6] at H
   exact absurd H (by simp)
  rw [if_pos c6] at H
  have c6b0 : decide (0 ≤ x12_1) = true := decide_eq_true c6
  clear c6
  by_cases c7 : x12_1 < (l0_0.length : Int)
  rotate_left
  ·rw [if_neg c7] at H
   exact absurd H (by simp)
  rw [if_pos c7] at H
  have c7b0 : decide (x12_1 < (l0_0.length : Int)) = true := decide_eq_true c7
  clear c7
  obtain ⟨t409, A8, H⟩ := bnd H
  try dsimp only at H
  by_cases c9 : t409 ≥ 0
  ·rw [if_pos c9] at H
   have c9b0 : decide (0 ≤ t409) = true := decide_eq_true c9
   clear c9
   simp only [Option.some.injEq, Prod.mk.injEq] at H
   obtain ⟨rfl, rfl⟩ := H
   have p408 : 0 ≤ (x12_1 : Int) := oda
   have q408 : x12_1 < (l0_0.length : Int) := oda
   obtain ⟨ad408, A408_0, c408_0, e408, hx408_0, hl408_0, hi408_0⟩ := at_L4 HR0_0.out x12_1 p408 q408
   cases e408
   replace hx408_0 := cel HB hx408_0
   have HR408_0 := Aside0.mk hi408_0
   have HC408_0 := Aside0.mk hl408_0
   clear hi408_0 hl408_0
   replace p408 := eq_true p408
   replace q408 := eq_true q408
   go_wp2_with (first | ((with_reducible refine gate_callee (f := 37) rfl ?_); refine goesL_ (some 19) rfl rfl Try.func37 (by kernel_rfl) rfl #[.slice A408_0 (rd_L4 l0_0 x12_1).length c408_0, .int .i64 a1] rfl gmp ?_; (with_reducible refine (slices_Index_int_int.calls k1 _ _ (rd_L4 l0_0 x12_1) a1 t409 _ ?side1 ?side2 A8.out).mono ?_); (case side1 => exact cdl (Kd.C_below HR408_0.out HB.out)); (case side2 => exact HC408_0.out); rintro e w' ⟨rfl, ⟨nd, rfl⟩⟩; refine ⟨_, rfl, ?_⟩))
   go_ret2
   exact ⟨by rfl , bel1 HB GE407⟩
  rw [if_neg c9] at H
  have c9b0 : decide (0 ≤ t409) = false := decide_eq_false c9
  clear c9
  have H' := Aside0.mk H
  clear H
  have p408 : 0 ≤ (x12_1 : Int) := oda
  have q408 : x12_1 < (l0_0.length : Int) := oda
  obtain ⟨ad408, A408_0, c408_0, e408, hx408_0, hl408_0, hi408_0⟩ := at_L4 HR0_0.out x12_1 p408 q408
  cases e408
  replace hx408_0 := cel HB hx408_0
  have HR408_0 := Aside0.mk hi408_0
  have HC408_0 := Aside0.mk hl408_0
  clear hi408_0 hl408_0
  replace p408 := eq_true p408
  replace q408 := eq_true q408
  go_wp2_with (first | ((with_reducible refine gate_callee (f := 37) rfl ?_); refine goesL_ (some 19) rfl rfl Try.func37 (by kernel_rfl) rfl #[.slice A408_0 (rd_L4 l0_0 x12_1).length c408_0, .int .i64 a1] rfl gmp ?_; (with_reducible refine (slices_Index_int_int.calls k1 _ _ (rd_L4 l0_0 x12_1) a1 t409 _ ?side1 ?side2 A8.out).mono ?_); (case side1 => exact cdl (Kd.C_below HR408_0.out HB.out)); (case side2 => exact HC408_0.out); rintro e w' ⟨rfl, ⟨nd, rfl⟩⟩; refine ⟨_, rfl, ?_⟩))
  go_roundg k1
  case measure => have := HK1.out; omega
  case rel => exact ⟨(wrap64 (x12_1 + 1)), (by rfl ), H', ⟨by have := HK1.out; omega⟩, ⟨bkl BK407⟩, ⟨bel1 HB GE407⟩⟩
/-! ### impl_within: function 21 -/
def impl_within.f (a0 : Int) (a1 : Int) (a2 : Int) : Option (Bool) := if a0 ≥ a1 then (some (decide (a0 ≤ a2))) else (some false)
set_option maxHeartbeats 8000000 in
set_option maxRecDepth 100000 in
theorem impl_within.calls (a0 : Int) (a1 : Int) (a2 : Int) (r : Bool) (w : World) (h : impl_within.f a0 a1 a2 = some r) :
  Calls Try.prog 21 #[.int .i64 a0, .int .i64 a1, .int .i64 a2] w fun e w' => e = .returned (.bool r) ∧ Drawn0 w w' := by
 have H : (if a0 ≥ a1 then (some (decide (a0 ≤ a2))) else (some false)) = some r := h
 clear h
 by_cases c4 : a0 ≥ a1
 ·rw [if_pos c4] at H
  have c4b0 : decide (a1 ≤ a0) = true := decide_eq_true c4
  clear c4
  obtain rfl := Option.some.inj H
  go_enter Try.func21, Try.ntmps21
  go_wp2
  go_ret
  exact ⟨by rfl , by repeat (exact Drawn0.refl _ )⟩
 rw [if_neg c4] at H
 have c4b0 : decide (a1 ≤ a0) = false := decide_eq_false c4
 clear c4
 obtain rfl := Option.some.inj H
 go_enter Try.func21, Try.ntmps21
 go_wp2
 go_ret
 exact ⟨by rfl , by repeat (exact Drawn0.refl _ )⟩
end Go.Proofs.Ytemildnlfjijmaa.P
