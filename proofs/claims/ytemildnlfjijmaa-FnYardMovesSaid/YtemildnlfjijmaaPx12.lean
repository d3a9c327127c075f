-- Written by a program of this session over the translation (a variant of the printer, see wip/gen); Lean checks it.
import Derived.Test.YtemildnlfjijmaaVC
import Derived.Test.YtemildnlfjijmaaPx0
import Derived.Test.YtemildnlfjijmaaPx10
namespace Go.Proofs.Ytemildnlfjijmaa.P
open Go.RowKit Go.Proofs.YtemildnlfjijmaaW.PrintWords Go.Proofs.YtemildnlfjijmaaW.PrintLast Go.Proofs.YtemildnlfjijmaaW.PrintMore
attribute [local go_sem] Go.Proofs.Ytemildnlfjijmaa.V.isSome_setCell max2_int min2_int max_two min_two max_three min_three max_four min_four
set_option linter.unusedVariables false
set_option linter.unusedSimpArgs false
/-! ### impl_checkLetter: function 69 -/
mutual
def impl_checkLetter.l0 : Nat → ByteArray → Int → Int → Int → Option (Int × Bool)
 | 0, _, _, _, _ => none
 | k + 1, x0, x4, x11, x12 => if x12 < x11 then (if 0 ≤ x12 then (if x12 < (x0.size : Int) then (if x12 < 3 then (if (bt x0 x12) ≥ 65 then (impl_checkLetter.j1 k x0 x4 x12 (bt x0 x12) x11 x12 (decide ((bt x0 x12) ≤ 90))) else (impl_checkLetter.j1 k x0 x4 x12 (bt x0 x12) x11 x12 false)) else (impl_checkLetter.j1 k x0 x4 x12 (bt x0 x12) x11 x12 false)) else (none)) else (none)) else (some ((wrap64 (65 + (Int.tmod x4 23))) % 256, true))
def impl_checkLetter.j1 : Nat → ByteArray → Int → Int → Int → Int → Int → Bool → Option (Int × Bool)
 | 0, _, _, _, _, _, _, _ => none
 | k + 1, x0, x4, x5, x6, x11, x12, x18 => if x18 = true then (impl_checkLetter.l0 k x0 (wrap64 (x4 + (wrap64 ((wrap64 (x5 + 2)) * (((x6 - 65) % 256) + 1))))) x11 (wrap64 (x12 + 1))) else (if x5 ≥ 3 then (if x6 ≥ 48 then (if x6 ≤ 57 then (impl_checkLetter.l0 k x0 (wrap64 (x4 + (wrap64 ((wrap64 (x5 + 2)) * ((x6 - 48) % 256))))) x11 (wrap64 (x12 + 1))) else (some (0, false))) else (some (0, false))) else (some (0, false)))
end
def impl_checkLetter.f (k : Nat) (a0 : ByteArray) : Option (Int × Bool) := if (a0.size : Int) = 7 then (impl_checkLetter.l0 k a0 0 (a0.size : Int) 0) else (some (0, false))
set_option maxHeartbeats 8000000 in
set_option maxRecDepth 100000 in
theorem impl_checkLetter.calls (k : Nat) (a0 : ByteArray) (r1 : Int) (r2 : Bool) (w : World) (h : impl_checkLetter.f k a0 = some (r1, r2)) :
  Calls Try.prog 69 #[.string a0] w fun e w' => e = .returned (.tuple #[.int .u8 r1, .bool r2]) ∧ Drawn0 w w' := by
 have H : (if (a0.size : Int) = 7 then (impl_checkLetter.l0 k a0 0 (a0.size : Int) 0) else (some (0, false))) = some (r1, r2) := h
 clear h
 by_cases c2 : (a0.size : Int) = 7
 rotate_left
 ·rw [if_neg c2] at H
  have c2b0 : ((a0.size : Int) == 7) = false := beq_eq_false_iff_ne.mpr c2
  have c2b1 : ((a0.size : Int) != 7) = true := bne_iff_ne.mpr c2
  simp only [Option.some.injEq, Prod.mk.injEq] at H
  obtain ⟨rfl, rfl⟩ := H
  go_enter Try.func69, Try.ntmps69
  go_wp2
  go_ret2
  exact ⟨by rfl , by repeat (exact Drawn0.refl _ )⟩
 rw [if_pos c2] at H
 have c2b0 : ((a0.size : Int) == 7) = true := beq_iff_eq.mpr c2
 have c2b1 : ((a0.size : Int) != 7) = false := bne_eq_false_iff_eq.mpr c2
 clear c2
 have H' := Aside0.mk H
 clear H
 go_enter Try.func69, Try.ntmps69
 go_wp2
 go_loopg [4, 12] k (fun kq v4 v12 w' => ∃ (x4_1 : Int) (x12_1 : Int), v4 = .int .i64 x4_1 ∧ v12 = .int .i64 x12_1 ∧ Aside0 (impl_checkLetter.l0 kq a0 x4_1 (a0.size : Int) x12_1 = some (r1, r2)) ∧ Aside0 (kq ≤ k) ∧ Drawn0 w w')
 case atStart => exact ⟨(0), (0), (by rfl ), (by rfl ), H', ⟨Nat.le_refl _⟩, by repeat (exact Drawn0.refl _ )⟩
 clear H'
 try clear c2b0
 try clear c2b1
 obtain ⟨x4_1, x12_1, rfl, rfl, HA, HK1, ⟨m1, rfl⟩⟩ := hrel
 cases gk with
 | zero => exact absurd HA.out (by simp [impl_checkLetter.l0])
 | succ k1 =>
  have H := HA.out
  clear HA
  simp only [impl_checkLetter.l0] at H
  by_cases c3 : x12_1 < (a0.size : Int)
  rotate_left
  ·rw [if_neg c3] at H
   have c3b0 : decide (x12_1 < (a0.size : Int)) = false := decide_eq_false c3
   clear c3
   simp only [Option.some.injEq, Prod.mk.injEq] at H
   obtain ⟨rfl, rfl⟩ := H
   go_wp2
   go_ret2
   exact ⟨by rfl , by repeat (first | exact Drawn0.refl _ | apply Drawn0.step)⟩
  rw [if_pos c3] at H
  have c3b0 : decide (x12_1 < (a0.size : Int)) = true := decide_eq_true c3
  clear c3
  by_cases c4 : 0 ≤ x12_1
  rotate_left
  ·rw [if_neg c4] at H
   exact absurd H (by simp)
  rw [if_pos c4] at H
  have c4b0 : decide (0 ≤ x12_1) = true := decide_eq_true c4
  clear c4
  by_cases c5 : x12_1 < (a0.size : Int)
  rotate_left
  ·rw [if_neg c5] at H
   exact absurd H (by simp)
  rw [if_pos c5] at H
  have c5b0 : decide (x12_1 < (a0.size : Int)) = true := decide_eq_true c5
  clear c5
  have HC7 := Aside0.mk H
  clear H
  have p6 : 0 ≤ (x12_1 : Int) := oda
  have q6 : x12_1 < (a0.size : Int) := oda
  have hx6 := bt_at a0 x12_1
  replace p6 := eq_true p6
  replace q6 := eq_true q6
  go_upto_region 9 with (fail)
  go_cut [18] (fun v18 wc => ∃ (kq : Nat) (x18_6 : Bool), v18 = .bool x18_6 ∧ Aside0 (impl_checkLetter.j1 kq a0 x4_1 x12_1 (bt a0 x12_1) (a0.size : Int) x12_1 x18_6 = some (r1, r2)) ∧ Aside0 (kq ≤ k1) ∧ Drawn0 w wc)
  case first =>
   have H := HC7.out
   clear HC7
   by_cases c8 : x12_1 < 3
   rotate_left
   ·rw [if_neg c8] at H
    have c8b0 : decide (x12_1 < 3) = false := decide_eq_false c8
    clear c8
    have H' := Aside0.mk H
    clear H
    go_wp2
    go_meet
    case rel => exact ⟨_, (false), (by rfl ), H', ⟨by have := HK1.out; omega ⟩, by repeat (first | exact Drawn0.refl _ | apply Drawn0.step)⟩
   rw [if_pos c8] at H
   have c8b0 : decide (x12_1 < 3) = true := decide_eq_true c8
   clear c8
   by_cases c9 : (bt a0 x12_1) ≥ 65
   rotate_left
   ·rw [if_neg c9] at H
    have c9b0 : decide (65 ≤ (bt a0 x12_1)) = false := decide_eq_false c9
    clear c9
    have H' := Aside0.mk H
    clear H
    go_wp2
    go_meet
    case rel => exact ⟨_, (false), (by rfl ), H', ⟨by have := HK1.out; omega ⟩, by repeat (first | exact Drawn0.refl _ | apply Drawn0.step)⟩
   rw [if_pos c9] at H
   have c9b0 : decide (65 ≤ (bt a0 x12_1)) = true := decide_eq_true c9
   clear c9
   have H' := Aside0.mk H
   clear H
   go_wp2
   go_meet
   case rel => exact ⟨_, (decide ((bt a0 x12_1) ≤ 90)), (by rfl ), H', ⟨by have := HK1.out; omega ⟩, by repeat (first | exact Drawn0.refl _ | apply Drawn0.step)⟩
  clear HC7
  try clear c3b0
  try clear c4b0
  try clear c5b0
  try clear p6
  try clear q6
  try clear hx6
  obtain ⟨kq, x18_6, rfl, HA, HJ6, ⟨mc6, rfl⟩⟩ := hcut
  cases kq with
  | zero => exact absurd HA.out (by simp [impl_checkLetter.j1])
  | succ kj6 =>
   have H := HA.out
   clear HA
   simp only [impl_checkLetter.j1] at H
   by_cases c10 : x18_6 = true
   ·subst c10
    replace H : (impl_checkLetter.l0 kj6 a0 (wrap64 (x4_1 + (wrap64 ((wrap64 (x12_1 + 2)) * ((((bt a0 x12_1) - 65) % 256) + 1))))) (a0.size : Int) (wrap64 (x12_1 + 1))) = some (r1, r2) := by rw [if_pos rfl] at H; exact H
    have H' := Aside0.mk H
    clear H
    go_wp2
    go_roundg kj6
    case measure => have := HK1.out; have := HJ6.out; omega
    case rel => exact ⟨(wrap64 (x4_1 + (wrap64 ((wrap64 (x12_1 + 2)) * ((((bt a0 x12_1) - 65) % 256) + 1))))), (wrap64 (x12_1 + 1)), (by rfl ), (by rfl ), H', ⟨by have := HK1.out; have := HJ6.out; omega⟩, by repeat (first | exact Drawn0.refl _ | apply Drawn0.step)⟩
   replace c10 := Bool.eq_false_iff.mpr c10
   subst c10
   replace H : (if x12_1 ≥ 3 then (if (bt a0 x12_1) ≥ 48 then (if (bt a0 x12_1) ≤ 57 then (impl_checkLetter.l0 kj6 a0 (wrap64 (x4_1 + (wrap64 ((wrap64 (x12_1 + 2)) * (((bt a0 x12_1) - 48) % 256))))) (a0.size : Int) (wrap64 (x12_1 + 1))) else (some (0, false))) else (some (0, false))) else (some (0, false))) = some (r1, r2) := by rw [if_neg (show ¬ (false = true) by decide)] at H; exact H
   by_cases c11 : x12_1 ≥ 3
   rotate_left
   ·rw [if_neg c11] at H
    have c11b0 : decide (3 ≤ x12_1) = false := decide_eq_false c11
    clear c11
    simp only [Option.some.injEq, Prod.mk.injEq] at H
    obtain ⟨rfl, rfl⟩ := H
    go_wp2
    go_ret2
    exact ⟨by rfl , by repeat (first | exact Drawn0.refl _ | apply Drawn0.step)⟩
   rw [if_pos c11] at H
   have c11b0 : decide (3 ≤ x12_1) = true := decide_eq_true c11
   clear c11
   by_cases c12 : (bt a0 x12_1) ≥ 48
   rotate_left
   ·rw [if_neg c12] at H
    have c12b0 : decide (48 ≤ (bt a0 x12_1)) = false := decide_eq_false c12
    clear c12
    simp only [Option.some.injEq, Prod.mk.injEq] at H
    obtain ⟨rfl, rfl⟩ := H
    go_wp2
    go_ret2
    exact ⟨by rfl , by repeat (first | exact Drawn0.refl _ | apply Drawn0.step)⟩
   rw [if_pos c12] at H
   have c12b0 : decide (48 ≤ (bt a0 x12_1)) = true := decide_eq_true c12
   clear c12
   by_cases c13 : (bt a0 x12_1) ≤ 57
   rotate_left
   ·rw [if_neg c13] at H
    have c13b0 : decide ((bt a0 x12_1) ≤ 57) = false := decide_eq_false c13
    clear c13
    simp only [Option.some.injEq, Prod.mk.injEq] at H
    obtain ⟨rfl, rfl⟩ := H
    go_wp2
    go_ret2
    exact ⟨by rfl , by repeat (first | exact Drawn0.refl _ | apply Drawn0.step)⟩
   rw [if_pos c13] at H
   have c13b0 : decide ((bt a0 x12_1) ≤ 57) = true := decide_eq_true c13
   clear c13
   have H' := Aside0.mk H
   clear H
   go_wp2
   go_roundg kj6
   case measure => have := HK1.out; have := HJ6.out; omega
   case rel => exact ⟨(wrap64 (x4_1 + (wrap64 ((wrap64 (x12_1 + 2)) * (((bt a0 x12_1) - 48) % 256))))), (wrap64 (x12_1 + 1)), (by rfl ), (by rfl ), H', ⟨by have := HK1.out; have := HJ6.out; omega⟩, by repeat (first | exact Drawn0.refl _ | apply Drawn0.step)⟩
/-! ### impl_IsValidId: function 62 -/
def impl_IsValidId.f (k : Nat) (a0 : ByteArray) : Option (Bool) := if (a0.size : Int) = 8 then (if 0 ≤ 7 then (if 7 ≤ (a0.size : Int) then ((impl_checkLetter.f k (a0.extract 0 7)).bind fun bt410 => (if bt410.2 = true then (if 7 < (a0.size : Int) then (some ((bt a0 7) == bt410.1)) else (none)) else (some false))) else (none)) else (none)) else (some false)
set_option maxHeartbeats 8000000 in
set_option maxRecDepth 100000 in
theorem impl_IsValidId.calls (k : Nat) (a0 : ByteArray) (r : Bool) (w : World) (h : impl_IsValidId.f k a0 = some r) :
  Calls Try.prog 62 #[.string a0] w fun e w' => e = .returned (.bool r) ∧ Drawn0 w w' := by
 have H : (if (a0.size : Int) = 8 then (if 0 ≤ 7 then (if 7 ≤ (a0.size : Int) then ((impl_checkLetter.f k (a0.extract 0 7)).bind fun bt410 => (if bt410.2 = true then (if 7 < (a0.size : Int) then (some ((bt a0 7) == bt410.1)) else (none)) else (some false))) else (none)) else (none)) else (some false)) = some r := h
 clear h
 by_cases c2 : (a0.size : Int) = 8
 rotate_left
 ·rw [if_neg c2] at H
  have c2b0 : ((a0.size : Int) == 8) = false := beq_eq_false_iff_ne.mpr c2
  have c2b1 : ((a0.size : Int) != 8) = true := bne_iff_ne.mpr c2
  obtain rfl := Option.some.inj H
  go_enter Try.func62, Try.ntmps62
  go_wp2
  go_ret
  exact ⟨by rfl , by repeat (exact Drawn0.refl _ )⟩
 rw [if_pos c2] at H
 have c2b0 : ((a0.size : Int) == 8) = true := beq_iff_eq.mpr c2
 have c2b1 : ((a0.size : Int) != 8) = false := bne_eq_false_iff_eq.mpr c2
 clear c2
 by_cases c3 : 0 ≤ 7
 rotate_left
 ·rw [if_neg c3] at H
  exact absurd H (by simp)
 rw [if_pos c3] at H
 have c3b0 := eq_true c3
 have c3b1 : decide (0 ≤ 7) = true := decide_eq_true c3
 clear c3
 by_cases c4 : 7 ≤ (a0.size : Int)
 rotate_left
 ·rw [if_neg c4] at H
  exact absurd H (by simp)
 rw [if_pos c4] at H
 have c4b0 := eq_true c4
 have c4b1 : decide (7 ≤ (a0.size : Int)) = true := decide_eq_true c4
 clear c4
 obtain ⟨⟨t410, t411⟩, A5, H⟩ := bnd H
 try dsimp only at H
 by_cases c6 : t411 = true
 rotate_left
 ·replace c6 := Bool.eq_false_iff.mpr c6
  subst c6
  replace H : (some false) = some r := by rw [if_neg (show ¬ (false = true) by decide)] at H; exact H
  obtain rfl := Option.some.inj H
  go_enter Try.func62, Try.ntmps62
  go_wp2_with (first | ((with_reducible refine gate_callee (f := 69) rfl ?_); refine goesL_ (some 11) rfl rfl Try.func69 (by kernel_rfl) rfl #[.string (a0.extract 0 7)] rfl gmp ?_; (with_reducible refine (impl_checkLetter.calls k (a0.extract 0 7) t410 false _ A5.out).mono ?_); rintro e w' ⟨rfl, ⟨nd, rfl⟩⟩; refine ⟨_, rfl, ?_⟩))
  go_ret
  exact ⟨by rfl , by repeat (first | exact Drawn0.refl _ | apply Drawn0.step)⟩
 subst c6
 replace H : (if 7 < (a0.size : Int) then (some ((bt a0 7) == t410)) else (none)) = some r := by rw [if_pos rfl] at H; exact H
 by_cases c7 : 7 < (a0.size : Int)
 rotate_left
 ·rw [if_neg c7] at H
  exact absurd H (by simp)
 rw [if_pos c7] at H
 have c7b0 : decide (7 < (a0.size : Int)) = true := decide_eq_true c7
 have c7b1 : decide (7 < a0.size) = true := decide_eq_true (by omega)
 clear c7
 obtain rfl := Option.some.inj H
 go_enter Try.func62, Try.ntmps62
 go_wp2_with (first | ((with_reducible refine gate_callee (f := 69) rfl ?_); refine goesL_ (some 11) rfl rfl Try.func69 (by kernel_rfl) rfl #[.string (a0.extract 0 7)] rfl gmp ?_; (with_reducible refine (impl_checkLetter.calls k (a0.extract 0 7) t410 true _ A5.out).mono ?_); rintro e w' ⟨rfl, ⟨nd, rfl⟩⟩; refine ⟨_, rfl, ?_⟩; have p8 : 0 ≤ (7 : Int) := (by omega); have q8 : 7 < a0.size := (by have : (7 : Int) < (a0.size : Int) := oda; omega); have hx8 : ∀ h : 7 < a0.size, ((a0[7]'h).toNat : Int) = bt a0 7 := bt_at a0 7; clear p8; have qi8 : (7 < (a0.size : Int)) = True := eq_true (oda); replace q8 := eq_true q8))
 go_ret
 exact ⟨by rfl , by repeat (first | exact Drawn0.refl _ | apply Drawn0.step)⟩
/-! ### impl_IsValidContainer: function 52 -/
def impl_IsValidContainer.f (k : Nat) (a0_0 : ByteArray) (a0_1 : Int) (a0_2 : Int) (a0_3 : Int) (a0_4 : Int) : Option (Bool) := (impl_IsValidId.f k a0_0).bind fun t413 => (if t413 = true then ((impl_within.f a0_1 1 2).bind fun t414 => (if t414 = true then ((impl_within.f a0_3 1 3).bind fun t415 => (if t415 = true then ((impl_within.f a0_2 1 32000).bind fun t416 => (if t416 = true then ((impl_within.f a0_4 1 9).bind fun t417 => (some t417)) else (some false))) else (some false))) else (some false))) else (some false))
set_option maxHeartbeats 8000000 in
set_option maxRecDepth 100000 in
theorem impl_IsValidContainer.calls (k : Nat) (a0_0 : ByteArray) (a0_1 : Int) (a0_2 : Int) (a0_3 : Int) (a0_4 : Int) (r : Bool) (w : World) (h : impl_IsValidContainer.f k a0_0 a0_1 a0_2 a0_3 a0_4 = some r) :
  Calls Try.prog 52 #[.agg #[.string a0_0, .int .i64 a0_1, .int .i64 a0_2, .int .i64 a0_3, .int .i64 a0_4]] w fun e w' => e = .returned (.bool r) ∧ Below w.heap.size w w' := by
 have hu71 := Try.underlying71
 have HB := Aside0.mk (Below.refl w.heap.size w)
 have H : ((impl_IsValidId.f k a0_0).bind fun t413 => (if t413 = true then ((impl_within.f a0_1 1 2).bind fun t414 => (if t414 = true then ((impl_within.f a0_3 1 3).bind fun t415 => (if t415 = true then ((impl_within.f a0_2 1 32000).bind fun t416 => (if t416 = true then ((impl_within.f a0_4 1 9).bind fun t417 => (some t417)) else (some false))) else (some false))) else (some false))) else (some false))) = some r := h
 clear h
 obtain ⟨t413, A2, H⟩ := bnd H
 try dsimp only at H
 by_cases c3 : t413 = true
 rotate_left
 ·replace c3 := Bool.eq_false_iff.mpr c3
  subst c3
  replace H : (some false) = some r := by rw [if_neg (show ¬ (false = true) by decide)] at H; exact H
  obtain rfl := Option.some.inj H
  go_enter Try.func52, Try.ntmps52
  go_wp2_with (first | ((with_reducible refine gate_dst (N := 1) rfl ?_); refine box_event ?hg (N := 1) ?hd (cs := #[.string a0_0, .int .i64 a0_1, .int .i64 a0_2, .int .i64 a0_3, .int .i64 a0_4]) (t := 71) ?hr ?_; (case hd | hg => rfl); (case hr => go_simp); intro gb412 hg w19 hbox hb; have BK412 := Aside0.mk (hbox); have GW412 := gsb (w := w) hg (bel HB); have GE412 := gsb (w := w) hg (bel HB); replace HB := Aside0.mk (below_step (bel HB) hb); clear hb hbox hg; obtain ⟨_, _, _, _, _, _, _, _, _, _⟩ := bf5 BK412) | ((with_reducible refine gate_callee (f := 62) rfl ?_); refine goesL_ (some 5) rfl rfl Try.func62 (by kernel_rfl) rfl #[.string a0_0] rfl gmp ?_; (with_reducible refine (impl_IsValidId.calls k a0_0 false _ A2.out).mono ?_); rintro e w' ⟨rfl, ⟨nd, rfl⟩⟩; refine ⟨_, rfl, ?_⟩))
  go_ret
  exact ⟨by rfl , bel1 HB GE412⟩
 subst c3
 replace H : ((impl_within.f a0_1 1 2).bind fun t414 => (if t414 = true then ((impl_within.f a0_3 1 3).bind fun t415 => (if t415 = true then ((impl_within.f a0_2 1 32000).bind fun t416 => (if t416 = true then ((impl_within.f a0_4 1 9).bind fun t417 => (some t417)) else (some false))) else (some false))) else (some false))) = some r := by rw [if_pos rfl] at H; exact H
 obtain ⟨t414, A4, H⟩ := bnd H
 try dsimp only at H
 by_cases c5 : t414 = true
 rotate_left
 ·replace c5 := Bool.eq_false_iff.mpr c5
  subst c5
  replace H : (some false) = some r := by rw [if_neg (show ¬ (false = true) by decide)] at H; exact H
  obtain rfl := Option.some.inj H
  go_enter Try.func52, Try.ntmps52
  go_wp2_with (first | ((with_reducible refine gate_dst (N := 1) rfl ?_); refine box_event ?hg (N := 1) ?hd (cs := #[.string a0_0, .int .i64 a0_1, .int .i64 a0_2, .int .i64 a0_3, .int .i64 a0_4]) (t := 71) ?hr ?_; (case hd | hg => rfl); (case hr => go_simp); intro gb412 hg w17 hbox hb; have BK412 := Aside0.mk (hbox); have GW412 := gsb (w := w) hg (bel HB); have GE412 := gsb (w := w) hg (bel HB); replace HB := Aside0.mk (below_step (bel HB) hb); clear hb hbox hg; obtain ⟨_, _, _, _, _, _, _, _, _, _⟩ := bf5 BK412) | ((with_reducible refine gate_callee (f := 62) rfl ?_); refine goesL_ (some 5) rfl rfl Try.func62 (by kernel_rfl) rfl #[.string a0_0] rfl gmp ?_; (with_reducible refine (impl_IsValidId.calls k a0_0 true _ A2.out).mono ?_); rintro e w' ⟨rfl, ⟨nd, rfl⟩⟩; refine ⟨_, rfl, ?_⟩) | (go_at_call 21; (with_reducible refine (impl_within.calls a0_1 1 2 false _ A4.out).mono ?_); rintro e w' ⟨rfl, ⟨nd, rfl⟩⟩))
  go_ret
  exact ⟨by rfl , bel1 HB GE412⟩
 subst c5
 replace H : ((impl_within.f a0_3 1 3).bind fun t415 => (if t415 = true then ((impl_within.f a0_2 1 32000).bind fun t416 => (if t416 = true then ((impl_within.f a0_4 1 9).bind fun t417 => (some t417)) else (some false))) else (some false))) = some r := by rw [if_pos rfl] at H; exact H
 obtain ⟨t415, A6, H⟩ := bnd H
 try dsimp only at H
 by_cases c7 : t415 = true
 rotate_left
 ·replace c7 := Bool.eq_false_iff.mpr c7
  subst c7
  replace H : (some false) = some r := by rw [if_neg (show ¬ (false = true) by decide)] at H; exact H
  obtain rfl := Option.some.inj H
  go_enter Try.func52, Try.ntmps52
  go_wp2_with (first | ((with_reducible refine gate_dst (N := 1) rfl ?_); refine box_event ?hg (N := 1) ?hd (cs := #[.string a0_0, .int .i64 a0_1, .int .i64 a0_2, .int .i64 a0_3, .int .i64 a0_4]) (t := 71) ?hr ?_; (case hd | hg => rfl); (case hr => go_simp); intro gb412 hg w15 hbox hb; have BK412 := Aside0.mk (hbox); have GW412 := gsb (w := w) hg (bel HB); have GE412 := gsb (w := w) hg (bel HB); replace HB := Aside0.mk (below_step (bel HB) hb); clear hb hbox hg; obtain ⟨_, _, _, _, _, _, _, _, _, _⟩ := bf5 BK412) | ((with_reducible refine gate_callee (f := 62) rfl ?_); refine goesL_ (some 5) rfl rfl Try.func62 (by kernel_rfl) rfl #[.string a0_0] rfl gmp ?_; (with_reducible refine (impl_IsValidId.calls k a0_0 true _ A2.out).mono ?_); rintro e w' ⟨rfl, ⟨nd, rfl⟩⟩; refine ⟨_, rfl, ?_⟩) | (go_at_call 21; (with_reducible refine (impl_within.calls a0_1 1 2 true _ A4.out).mono ?_); rintro e w' ⟨rfl, ⟨nd, rfl⟩⟩) | (go_at_call 21; (with_reducible refine (impl_within.calls a0_3 1 3 false _ A6.out).mono ?_); rintro e w' ⟨rfl, ⟨nd, rfl⟩⟩))
  go_ret
  exact ⟨by rfl , bel1 HB GE412⟩
 subst c7
 replace H : ((impl_within.f a0_2 1 32000).bind fun t416 => (if t416 = true then ((impl_within.f a0_4 1 9).bind fun t417 => (some t417)) else (some false))) = some r := by rw [if_pos rfl] at H; exact H
 obtain ⟨t416, A8, H⟩ := bnd H
 try dsimp only at H
 by_cases c9 : t416 = true
 rotate_left
 ·replace c9 := Bool.eq_false_iff.mpr c9
  subst c9
  replace H : (some false) = some r := by rw [if_neg (show ¬ (false = true) by decide)] at H; exact H
  obtain rfl := Option.some.inj H
  go_enter Try.func52, Try.ntmps52
  go_wp2_with (first | ((with_reducible refine gate_dst (N := 1) rfl ?_); refine box_event ?hg (N := 1) ?hd (cs := #[.string a0_0, .int .i64 a0_1, .int .i64 a0_2, .int .i64 a0_3, .int .i64 a0_4]) (t := 71) ?hr ?_; (case hd | hg => rfl); (case hr => go_simp); intro gb412 hg w13 hbox hb; have BK412 := Aside0.mk (hbox); have GW412 := gsb (w := w) hg (bel HB); have GE412 := gsb (w := w) hg (bel HB); replace HB := Aside0.mk (below_step (bel HB) hb); clear hb hbox hg; obtain ⟨_, _, _, _, _, _, _, _, _, _⟩ := bf5 BK412) | ((with_reducible refine gate_callee (f := 62) rfl ?_); refine goesL_ (some 5) rfl rfl Try.func62 (by kernel_rfl) rfl #[.string a0_0] rfl gmp ?_; (with_reducible refine (impl_IsValidId.calls k a0_0 true _ A2.out).mono ?_); rintro e w' ⟨rfl, ⟨nd, rfl⟩⟩; refine ⟨_, rfl, ?_⟩) | (go_at_call 21; (with_reducible refine (impl_within.calls a0_1 1 2 true _ A4.out).mono ?_); rintro e w' ⟨rfl, ⟨nd, rfl⟩⟩) | (go_at_call 21; (with_reducible refine (impl_within.calls a0_3 1 3 true _ A6.out).mono ?_); rintro e w' ⟨rfl, ⟨nd, rfl⟩⟩) | (go_at_call 21; (with_reducible refine (impl_within.calls a0_2 1 32000 false _ A8.out).mono ?_); rintro e w' ⟨rfl, ⟨nd, rfl⟩⟩))
  go_ret
  exact ⟨by rfl , bel1 HB GE412⟩
 subst c9
 replace H : ((impl_within.f a0_4 1 9).bind fun t417 => (some t417)) = some r := by rw [if_pos rfl] at H; exact H
 obtain ⟨t417, A10, H⟩ := bnd H
 try dsimp only at H
 obtain rfl := Option.some.inj H
 go_enter Try.func52, Try.ntmps52
 go_wp2_with (first | ((with_reducible refine gate_dst (N := 1) rfl ?_); refine box_event ?hg (N := 1) ?hd (cs := #[.string a0_0, .int .i64 a0_1, .int .i64 a0_2, .int .i64 a0_3, .int .i64 a0_4]) (t := 71) ?hr ?_; (case hd | hg => rfl); (case hr => go_simp); intro gb412 hg w11 hbox hb; have BK412 := Aside0.mk (hbox); have GW412 := gsb (w := w) hg (bel HB); have GE412 := gsb (w := w) hg (bel HB); replace HB := Aside0.mk (below_step (bel HB) hb); clear hb hbox hg; obtain ⟨_, _, _, _, _, _, _, _, _, _⟩ := bf5 BK412) | ((with_reducible refine gate_callee (f := 62) rfl ?_); refine goesL_ (some 5) rfl rfl Try.func62 (by kernel_rfl) rfl #[.string a0_0] rfl gmp ?_; (with_reducible refine (impl_IsValidId.calls k a0_0 true _ A2.out).mono ?_); rintro e w' ⟨rfl, ⟨nd, rfl⟩⟩; refine ⟨_, rfl, ?_⟩) | (go_at_call 21; (with_reducible refine (impl_within.calls a0_1 1 2 true _ A4.out).mono ?_); rintro e w' ⟨rfl, ⟨nd, rfl⟩⟩) | (go_at_call 21; (with_reducible refine (impl_within.calls a0_3 1 3 true _ A6.out).mono ?_); rintro e w' ⟨rfl, ⟨nd, rfl⟩⟩) | (go_at_call 21; (with_reducible refine (impl_within.calls a0_2 1 32000 true _ A8.out).mono ?_); rintro e w' ⟨rfl, ⟨nd, rfl⟩⟩) | (go_at_call 21; (with_reducible refine (impl_within.calls a0_4 1 9 t417 _ A10.out).mono ?_); rintro e w' ⟨rfl, ⟨nd, rfl⟩⟩))
 go_ret
 exact ⟨by rfl , bel1 HB GE412⟩
-- NOT PRINTED: function 63 (impl_Container)
end Go.Proofs.Ytemildnlfjijmaa.P
