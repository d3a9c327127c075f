-- Written by a program of this session over the translation (a variant of the printer, see wip/gen); Lean checks it.
import Derived.Test.YtlbmookfonlpjaaPx0
import Derived.Test.YtlbmookfonlpjaaPx1
namespace Go.Proofs.Ytlbmookfonlpjaa.P
open Go.RowKit Go.Proofs.YtlbmookfonlpjaaW.PrintWords Go.Proofs.YtlbmookfonlpjaaW.PrintLast Go.Proofs.YtlbmookfonlpjaaW.PrintMore
attribute [local go_sem] Go.Proofs.Ytlbmookfonlpjaa.V.isSome_setCell max2_int min2_int max_two min_two max_three min_three max_four min_four   -- for this text's walks alone
set_option linter.unusedVariables false
set_option linter.unusedSimpArgs false

/-! ### spec_l2Seven: function 61 -/
def spec_l2Seven.l0 : Nat → ByteArray → Int → Option (Bool)
 | 0, _, _ => none
 | k + 1, x0, x3 => if x3 < 7 then (if x3 < 3 then (if 0 ≤ x3 then (if x3 < (x0.size : Int) then (if (bt x0 x3) < 65 then (some false) else (if (bt x0 x3) > 90 then (some false) else (if x3 > 2 then (if (bt x0 x3) < 48 then (some false) else (if (bt x0 x3) > 57 then (some false) else (spec_l2Seven.l0 k x0 (wrap64 (x3 + 1))))) else (spec_l2Seven.l0 k x0 (wrap64 (x3 + 1)))))) else (none)) else (none)) else (if x3 > 2 then (if 0 ≤ x3 then (if x3 < (x0.size : Int) then (if (bt x0 x3) < 48 then (some false) else (if (bt x0 x3) > 57 then (some false) else (spec_l2Seven.l0 k x0 (wrap64 (x3 + 1))))) else (none)) else (none)) else (spec_l2Seven.l0 k x0 (wrap64 (x3 + 1))))) else (some true)
def spec_l2Seven.f (k : Nat) (a0 : ByteArray) : Option (Bool) := if (a0.size : Int) = 7 then (spec_l2Seven.l0 k a0 0) else (some false)
theorem spec_l2Seven.mono_l : ∀ k, (∀ y0 y1, LeO (spec_l2Seven.l0 k y0 y1) (spec_l2Seven.l0 (k + 1) y0 y1))
 | 0 => fun _ _ r h => by simp [spec_l2Seven.l0] at h
 | k + 1 => by
  have ih0 := spec_l2Seven.mono_l k
  ·intro y0 y1
   unfold spec_l2Seven.l0
   repeat' first
   | (with_reducible exact ih0 _ _)
   | (with_reducible exact LeO.refl _)
   | (with_reducible exact LeO.none _)
   | (with_reducible refine LeO.ite ?_ ?_)
   | (with_reducible refine LeO.bind ?_ (fun _ => ?_))
   | exact ih0 _ _
   | exact LeO.none _
   | refine LeO.ite ?_ ?_
   | refine LeO.bind ?_ (fun _ => ?_)
theorem spec_l2Seven.mono : ∀ a0 k, LeO (spec_l2Seven.f k a0) (spec_l2Seven.f (k + 1) a0) := by
 intro a0 k
 have ih0 := spec_l2Seven.mono_l k
 unfold spec_l2Seven.f
 repeat' first
   | (with_reducible exact ih0 _ _)
   | (with_reducible exact LeO.refl _)
   | (with_reducible exact LeO.none _)
   | (with_reducible refine LeO.ite ?_ ?_)
   | (with_reducible refine LeO.bind ?_ (fun _ => ?_))
   | exact ih0 _ _
   | exact LeO.none _
   | refine LeO.ite ?_ ?_
   | refine LeO.bind ?_ (fun _ => ?_)
set_option maxHeartbeats 8000000 in
set_option maxRecDepth 100000 in
theorem spec_l2Seven.calls (k : Nat) (a0 : ByteArray) (r : Bool) (w : World) (h : spec_l2Seven.f k a0 = some r) :
  Calls Try.prog 61 #[.string a0] w fun e w' => e = .returned (.bool r) ∧ Drawn0 w w' := by
 have H : (if (a0.size : Int) = 7 then (spec_l2Seven.l0 k a0 0) else (some false)) = some r := h
 clear h
 by_cases c2 : (a0.size : Int) = 7
 ·rw [if_pos c2] at H
  have c2b0 : ((a0.size : Int) == 7) = true := beq_iff_eq.mpr c2
  have c2b1 : ((a0.size : Int) != 7) = false := bne_eq_false_iff_eq.mpr c2
  clear c2
  have H' := Aside0.mk H
  clear H
  go_enter Try.func61, Try.ntmps61
  go_wp2
  go_loopg [3] k (fun kq v3 w' => ∃ (x3_1 : Int), v3 = .int .i64 x3_1 ∧ Aside0 (spec_l2Seven.l0 kq a0 x3_1 = some r) ∧ Aside0 (kq ≤ k) ∧ Drawn0 w w')
  case atStart => exact ⟨(0), (by first | rfl | (simp; done) | (simp [*]; done)), H', ⟨Nat.le_refl _⟩, by repeat (first | exact Drawn0.refl _ | apply Drawn0.step)⟩
  case round =>
   clear H'
   try clear c2
   try clear c2b0
   try clear c2b1
   try clear p2
   obtain ⟨x3_1, rfl, HA, HK1, ⟨m1, rfl⟩⟩ := hrel
   cases gk with
   | zero => exact absurd HA.out (by simp [spec_l2Seven.l0])
   | succ k1 =>
    have H := HA.out
    clear HA
    simp only [spec_l2Seven.l0] at H
    by_cases c3 : x3_1 < 7
    ·rw [if_pos c3] at H
     have c3b0 : decide (x3_1 < 7) = true := decide_eq_true c3
     clear c3
     by_cases c4 : x3_1 < 3
     ·rw [if_pos c4] at H
      have c4b0 : decide (x3_1 < 3) = true := decide_eq_true c4
      clear c4
      by_cases c5 : 0 ≤ x3_1
      ·rw [if_pos c5] at H
       have c5b0 : decide (0 ≤ x3_1) = true := decide_eq_true c5
       clear c5
       by_cases c6 : x3_1 < (a0.size : Int)
       ·rw [if_pos c6] at H
        have c6b0 : decide (x3_1 < (a0.size : Int)) = true := decide_eq_true c6
        clear c6
        by_cases c8 : (bt a0 x3_1) < 65
        ·rw [if_pos c8] at H
         have c8b0 : decide ((bt a0 x3_1) < 65) = true := decide_eq_true c8
         clear c8
         obtain rfl := Option.some.inj H
         have p7 : 0 ≤ (x3_1 : Int) := oda
         have q7 : x3_1 < (a0.size : Int) := oda
         have hx7 := bt_at a0 x3_1
         replace p7 := eq_true p7
         replace q7 := eq_true q7
         go_wp2
         go_ret
         exact ⟨by first | rfl | (simp; done) | (simp [*]; done), by repeat (first | exact Drawn0.refl _ | apply Drawn0.step)⟩
        ·rw [if_neg c8] at H
         have c8b0 : decide ((bt a0 x3_1) < 65) = false := decide_eq_false c8
         clear c8
         by_cases c10 : (bt a0 x3_1) > 90
         ·rw [if_pos c10] at H
          have c10b0 : decide (90 < (bt a0 x3_1)) = true := decide_eq_true c10
          clear c10
          obtain rfl := Option.some.inj H
          have p7 : 0 ≤ (x3_1 : Int) := oda
          have q7 : x3_1 < (a0.size : Int) := oda
          have hx7 := bt_at a0 x3_1
          replace p7 := eq_true p7
          replace q7 := eq_true q7
          have p9 : 0 ≤ (x3_1 : Int) := oda
          have q9 : x3_1 < (a0.size : Int) := oda
          have hx9 := bt_at a0 x3_1
          replace p9 := eq_true p9
          replace q9 := eq_true q9
          go_wp2
          go_ret
          exact ⟨by first | rfl | (simp; done) | (simp [*]; done), by repeat (first | exact Drawn0.refl _ | apply Drawn0.step)⟩
         ·rw [if_neg c10] at H
          have c10b0 : decide (90 < (bt a0 x3_1)) = false := decide_eq_false c10
          clear c10
          by_cases c11 : x3_1 > 2
          ·rw [if_pos c11] at H
           have c11b0 : decide (2 < x3_1) = true := decide_eq_true c11
           clear c11
           by_cases c13 : (bt a0 x3_1) < 48
           ·rw [if_pos c13] at H
            have c13b0 : decide ((bt a0 x3_1) < 48) = true := decide_eq_true c13
            clear c13
            obtain rfl := Option.some.inj H
            have p7 : 0 ≤ (x3_1 : Int) := oda
            have q7 : x3_1 < (a0.size : Int) := oda
            have hx7 := bt_at a0 x3_1
            replace p7 := eq_true p7
            replace q7 := eq_true q7
            have p9 : 0 ≤ (x3_1 : Int) := oda
            have q9 : x3_1 < (a0.size : Int) := oda
            have hx9 := bt_at a0 x3_1
            replace p9 := eq_true p9
            replace q9 := eq_true q9
            have p12 : 0 ≤ (x3_1 : Int) := oda
            have q12 : x3_1 < (a0.size : Int) := oda
            have hx12 := bt_at a0 x3_1
            replace p12 := eq_true p12
            replace q12 := eq_true q12
            go_wp2
            go_ret
            exact ⟨by first | rfl | (simp; done) | (simp [*]; done), by repeat (first | exact Drawn0.refl _ | apply Drawn0.step)⟩
           ·rw [if_neg c13] at H
            have c13b0 : decide ((bt a0 x3_1) < 48) = false := decide_eq_false c13
            clear c13
            by_cases c15 : (bt a0 x3_1) > 57
            ·rw [if_pos c15] at H
             have c15b0 : decide (57 < (bt a0 x3_1)) = true := decide_eq_true c15
             clear c15
             obtain rfl := Option.some.inj H
             have p7 : 0 ≤ (x3_1 : Int) := oda
             have q7 : x3_1 < (a0.size : Int) := oda
             have hx7 := bt_at a0 x3_1
             replace p7 := eq_true p7
             replace q7 := eq_true q7
             have p9 : 0 ≤ (x3_1 : Int) := oda
             have q9 : x3_1 < (a0.size : Int) := oda
             have hx9 := bt_at a0 x3_1
             replace p9 := eq_true p9
             replace q9 := eq_true q9
             have p12 : 0 ≤ (x3_1 : Int) := oda
             have q12 : x3_1 < (a0.size : Int) := oda
             have hx12 := bt_at a0 x3_1
             replace p12 := eq_true p12
             replace q12 := eq_true q12
             have p14 : 0 ≤ (x3_1 : Int) := oda
             have q14 : x3_1 < (a0.size : Int) := oda
             have hx14 := bt_at a0 x3_1
             replace p14 := eq_true p14
             replace q14 := eq_true q14
             go_wp2
             go_ret
             exact ⟨by first | rfl | (simp; done) | (simp [*]; done), by repeat (first | exact Drawn0.refl _ | apply Drawn0.step)⟩
            ·rw [if_neg c15] at H
             have c15b0 : decide (57 < (bt a0 x3_1)) = false := decide_eq_false c15
             clear c15
             have H' := Aside0.mk H
             clear H
             have p7 : 0 ≤ (x3_1 : Int) := oda
             have q7 : x3_1 < (a0.size : Int) := oda
             have hx7 := bt_at a0 x3_1
             replace p7 := eq_true p7
             replace q7 := eq_true q7
             have p9 : 0 ≤ (x3_1 : Int) := oda
             have q9 : x3_1 < (a0.size : Int) := oda
             have hx9 := bt_at a0 x3_1
             replace p9 := eq_true p9
             replace q9 := eq_true q9
             have p12 : 0 ≤ (x3_1 : Int) := oda
             have q12 : x3_1 < (a0.size : Int) := oda
             have hx12 := bt_at a0 x3_1
             replace p12 := eq_true p12
             replace q12 := eq_true q12
             have p14 : 0 ≤ (x3_1 : Int) := oda
             have q14 : x3_1 < (a0.size : Int) := oda
             have hx14 := bt_at a0 x3_1
             replace p14 := eq_true p14
             replace q14 := eq_true q14
             go_wp2
             go_roundg k1
             case measure => have := HK1.out; omega
             case rel => exact ⟨(wrap64 (x3_1 + 1)), (by first | rfl | (simp; done) | (simp [*]; done)), H', ⟨by have := HK1.out; omega⟩, by repeat (first | exact Drawn0.refl _ | apply Drawn0.step)⟩
          ·rw [if_neg c11] at H
           have c11b0 : decide (2 < x3_1) = false := decide_eq_false c11
           clear c11
           have H' := Aside0.mk H
           clear H
           have p7 : 0 ≤ (x3_1 : Int) := oda
           have q7 : x3_1 < (a0.size : Int) := oda
           have hx7 := bt_at a0 x3_1
           replace p7 := eq_true p7
           replace q7 := eq_true q7
           have p9 : 0 ≤ (x3_1 : Int) := oda
           have q9 : x3_1 < (a0.size : Int) := oda
           have hx9 := bt_at a0 x3_1
           replace p9 := eq_true p9
           replace q9 := eq_true q9
           go_wp2
           go_roundg k1
           case measure => have := HK1.out; omega
           case rel => exact ⟨(wrap64 (x3_1 + 1)), (by first | rfl | (simp; done) | (simp [*]; done)), H', ⟨by have := HK1.out; omega⟩, by repeat (first | exact Drawn0.refl _ | apply Drawn0.step)⟩
       ·rw [if_neg c6] at H
        exact absurd H (by simp)
      ·rw [if_neg c5] at H
       exact absurd H (by simp)
     ·rw [if_neg c4] at H
      have c4b0 : decide (x3_1 < 3) = false := decide_eq_false c4
      clear c4
      by_cases c16 : x3_1 > 2
      ·rw [if_pos c16] at H
       have c16b0 : decide (2 < x3_1) = true := decide_eq_true c16
       clear c16
       by_cases c17 : 0 ≤ x3_1
       ·rw [if_pos c17] at H
        have c17b0 : decide (0 ≤ x3_1) = true := decide_eq_true c17
        clear c17
        by_cases c18 : x3_1 < (a0.size : Int)
        ·rw [if_pos c18] at H
         have c18b0 : decide (x3_1 < (a0.size : Int)) = true := decide_eq_true c18
         clear c18
         by_cases c20 : (bt a0 x3_1) < 48
         ·rw [if_pos c20] at H
          have c20b0 : decide ((bt a0 x3_1) < 48) = true := decide_eq_true c20
          clear c20
          obtain rfl := Option.some.inj H
          have p19 : 0 ≤ (x3_1 : Int) := oda
          have q19 : x3_1 < (a0.size : Int) := oda
          have hx19 := bt_at a0 x3_1
          replace p19 := eq_true p19
          replace q19 := eq_true q19
          go_wp2
          go_ret
          exact ⟨by first | rfl | (simp; done) | (simp [*]; done), by repeat (first | exact Drawn0.refl _ | apply Drawn0.step)⟩
         ·rw [if_neg c20] at H
          have c20b0 : decide ((bt a0 x3_1) < 48) = false := decide_eq_false c20
          clear c20
          by_cases c22 : (bt a0 x3_1) > 57
          ·rw [if_pos c22] at H
           have c22b0 : decide (57 < (bt a0 x3_1)) = true := decide_eq_true c22
           clear c22
           obtain rfl := Option.some.inj H
           have p19 : 0 ≤ (x3_1 : Int) := oda
           have q19 : x3_1 < (a0.size : Int) := oda
           have hx19 := bt_at a0 x3_1
           replace p19 := eq_true p19
           replace q19 := eq_true q19
           have p21 : 0 ≤ (x3_1 : Int) := oda
           have q21 : x3_1 < (a0.size : Int) := oda
           have hx21 := bt_at a0 x3_1
           replace p21 := eq_true p21
           replace q21 := eq_true q21
           go_wp2
           go_ret
           exact ⟨by first | rfl | (simp; done) | (simp [*]; done), by repeat (first | exact Drawn0.refl _ | apply Drawn0.step)⟩
          ·rw [if_neg c22] at H
           have c22b0 : decide (57 < (bt a0 x3_1)) = false := decide_eq_false c22
           clear c22
           have H' := Aside0.mk H
           clear H
           have p19 : 0 ≤ (x3_1 : Int) := oda
           have q19 : x3_1 < (a0.size : Int) := oda
           have hx19 := bt_at a0 x3_1
           replace p19 := eq_true p19
           replace q19 := eq_true q19
           have p21 : 0 ≤ (x3_1 : Int) := oda
           have q21 : x3_1 < (a0.size : Int) := oda
           have hx21 := bt_at a0 x3_1
           replace p21 := eq_true p21
           replace q21 := eq_true q21
           go_wp2
           go_roundg k1
           case measure => have := HK1.out; omega
           case rel => exact ⟨(wrap64 (x3_1 + 1)), (by first | rfl | (simp; done) | (simp [*]; done)), H', ⟨by have := HK1.out; omega⟩, by repeat (first | exact Drawn0.refl _ | apply Drawn0.step)⟩
        ·rw [if_neg c18] at H
         exact absurd H (by simp)
       ·rw [if_neg c17] at H
        exact absurd H (by simp)
      ·rw [if_neg c16] at H
       have c16b0 : decide (2 < x3_1) = false := decide_eq_false c16
       clear c16
       have H' := Aside0.mk H
       clear H
       go_wp2
       go_roundg k1
       case measure => have := HK1.out; omega
       case rel => exact ⟨(wrap64 (x3_1 + 1)), (by first | rfl | (simp; done) | (simp [*]; done)), H', ⟨by have := HK1.out; omega⟩, by repeat (first | exact Drawn0.refl _ | apply Drawn0.step)⟩
    ·rw [if_neg c3] at H
     have c3b0 : decide (x3_1 < 7) = false := decide_eq_false c3
     clear c3
     obtain rfl := Option.some.inj H
     go_wp2
     go_ret
     exact ⟨by first | rfl | (simp; done) | (simp [*]; done), by repeat (first | exact Drawn0.refl _ | apply Drawn0.step)⟩
 ·rw [if_neg c2] at H
  have c2b0 : ((a0.size : Int) == 7) = false := beq_eq_false_iff_ne.mpr c2
  have c2b1 : ((a0.size : Int) != 7) = true := bne_iff_ne.mpr c2
  obtain rfl := Option.some.inj H
  go_enter Try.func61, Try.ntmps61
  go_wp2
  go_ret
  exact ⟨by first | rfl | (simp; done) | (simp [*]; done), by repeat (first | exact Drawn0.refl _ | apply Drawn0.step)⟩

/-! ### spec_l2Check: function 62 -/
def spec_l2Check.l0 : Nat → ByteArray → Int → Int → Option (Int)
 | 0, _, _, _ => none
 | k + 1, x0, x3, x4 => if x4 < 7 then (if 0 ≤ x4 then (if x4 < (x0.size : Int) then (if x4 < 3 then (spec_l2Check.l0 k x0 (wrap64 (x3 + (wrap64 ((wrap64 ((wrap64 ((wrap64 (bt x0 x4)) - 65)) + 1)) * (wrap64 (x4 + 2)))))) (wrap64 (x4 + 1))) else (spec_l2Check.l0 k x0 (wrap64 (x3 + (wrap64 ((wrap64 ((wrap64 (bt x0 x4)) - 48)) * (wrap64 (x4 + 2)))))) (wrap64 (x4 + 1)))) else (none)) else (none)) else (some ((65 + ((Int.tmod x3 23) % 256)) % 256))
def spec_l2Check.f (k : Nat) (a0 : ByteArray) : Option (Int) := spec_l2Check.l0 k a0 0 0
theorem spec_l2Check.mono_l : ∀ k, (∀ y0 y1 y2, LeO (spec_l2Check.l0 k y0 y1 y2) (spec_l2Check.l0 (k + 1) y0 y1 y2))
 | 0 => fun _ _ _ r h => by simp [spec_l2Check.l0] at h
 | k + 1 => by
  have ih0 := spec_l2Check.mono_l k
  ·intro y0 y1 y2
   unfold spec_l2Check.l0
   repeat' first
   | (with_reducible exact ih0 _ _ _)
   | (with_reducible exact LeO.refl _)
   | (with_reducible exact LeO.none _)
   | (with_reducible refine LeO.ite ?_ ?_)
   | (with_reducible refine LeO.bind ?_ (fun _ => ?_))
   | exact ih0 _ _ _
   | exact LeO.none _
   | refine LeO.ite ?_ ?_
   | refine LeO.bind ?_ (fun _ => ?_)
theorem spec_l2Check.mono : ∀ a0 k, LeO (spec_l2Check.f k a0) (spec_l2Check.f (k + 1) a0) := by
 intro a0 k
 have ih0 := spec_l2Check.mono_l k
 unfold spec_l2Check.f
 repeat' first
   | (with_reducible exact ih0 _ _ _)
   | (with_reducible exact LeO.refl _)
   | (with_reducible exact LeO.none _)
   | (with_reducible refine LeO.ite ?_ ?_)
   | (with_reducible refine LeO.bind ?_ (fun _ => ?_))
   | exact ih0 _ _ _
   | exact LeO.none _
   | refine LeO.ite ?_ ?_
   | refine LeO.bind ?_ (fun _ => ?_)
set_option maxHeartbeats 8000000 in
set_option maxRecDepth 100000 in
theorem spec_l2Check.calls (k : Nat) (a0 : ByteArray) (r : Int) (w : World) (h : spec_l2Check.f k a0 = some r) :
  Calls Try.prog 62 #[.string a0] w fun e w' => e = .returned (.int .u8 r) ∧ Drawn0 w w' := by
 have H : (spec_l2Check.l0 k a0 0 0) = some r := h
 clear h
 have H' := Aside0.mk H
 clear H
 go_enter Try.func62, Try.ntmps62
 go_wp2
 go_loopg [3, 4] k (fun kq v3 v4 w' => ∃ (x3_1 : Int) (x4_1 : Int), v3 = .int .i64 x3_1 ∧ v4 = .int .i64 x4_1 ∧ Aside0 (spec_l2Check.l0 kq a0 x3_1 x4_1 = some r) ∧ Aside0 (kq ≤ k) ∧ Drawn0 w w')
 case atStart => exact ⟨(0), (0), (by first | rfl | (simp; done) | (simp [*]; done)), (by first | rfl | (simp; done) | (simp [*]; done)), H', ⟨Nat.le_refl _⟩, by repeat (first | exact Drawn0.refl _ | apply Drawn0.step)⟩
 case round =>
  clear H'
  obtain ⟨x3_1, x4_1, rfl, rfl, HA, HK1, ⟨m1, rfl⟩⟩ := hrel
  cases gk with
  | zero => exact absurd HA.out (by simp [spec_l2Check.l0])
  | succ k1 =>
   have H := HA.out
   clear HA
   simp only [spec_l2Check.l0] at H
   by_cases c2 : x4_1 < 7
   ·rw [if_pos c2] at H
    have c2b0 : decide (x4_1 < 7) = true := decide_eq_true c2
    clear c2
    by_cases c3 : 0 ≤ x4_1
    ·rw [if_pos c3] at H
     have c3b0 : decide (0 ≤ x4_1) = true := decide_eq_true c3
     clear c3
     by_cases c4 : x4_1 < (a0.size : Int)
     ·rw [if_pos c4] at H
      have c4b0 : decide (x4_1 < (a0.size : Int)) = true := decide_eq_true c4
      clear c4
      by_cases c6 : x4_1 < 3
      ·rw [if_pos c6] at H
       have c6b0 : decide (x4_1 < 3) = true := decide_eq_true c6
       clear c6
       have H' := Aside0.mk H
       clear H
       have p5 : 0 ≤ (x4_1 : Int) := oda
       have q5 : x4_1 < (a0.size : Int) := oda
       have hx5 := bt_at a0 x4_1
       replace p5 := eq_true p5
       replace q5 := eq_true q5
       have p7 : 0 ≤ (x4_1 : Int) := oda
       have q7 : x4_1 < (a0.size : Int) := oda
       have hx7 := bt_at a0 x4_1
       replace p7 := eq_true p7
       replace q7 := eq_true q7
       go_wp2
       go_roundg k1
       case measure => have := HK1.out; omega
       case rel => exact ⟨(wrap64 (x3_1 + (wrap64 ((wrap64 ((wrap64 ((wrap64 (bt a0 x4_1)) - 65)) + 1)) * (wrap64 (x4_1 + 2)))))), (wrap64 (x4_1 + 1)), (by first | rfl | (simp; done) | (simp [*]; done)), (by first | rfl | (simp; done) | (simp [*]; done)), H', ⟨by have := HK1.out; omega⟩, by repeat (first | exact Drawn0.refl _ | apply Drawn0.step)⟩
      ·rw [if_neg c6] at H
       have c6b0 : decide (x4_1 < 3) = false := decide_eq_false c6
       clear c6
       have H' := Aside0.mk H
       clear H
       have p5 : 0 ≤ (x4_1 : Int) := oda
       have q5 : x4_1 < (a0.size : Int) := oda
       have hx5 := bt_at a0 x4_1
       replace p5 := eq_true p5
       replace q5 := eq_true q5
       go_wp2
       go_roundg k1
       case measure => have := HK1.out; omega
       case rel => exact ⟨(wrap64 (x3_1 + (wrap64 ((wrap64 ((wrap64 (bt a0 x4_1)) - 48)) * (wrap64 (x4_1 + 2)))))), (wrap64 (x4_1 + 1)), (by first | rfl | (simp; done) | (simp [*]; done)), (by first | rfl | (simp; done) | (simp [*]; done)), H', ⟨by have := HK1.out; omega⟩, by repeat (first | exact Drawn0.refl _ | apply Drawn0.step)⟩
     ·rw [if_neg c4] at H
      exact absurd H (by simp)
    ·rw [if_neg c3] at H
     exact absurd H (by simp)
   ·rw [if_neg c2] at H
    have c2b0 : decide (x4_1 < 7) = false := decide_eq_false c2
    clear c2
    obtain rfl := Option.some.inj H
    go_wp2
    go_ret
    exact ⟨by first | rfl | (simp; done) | (simp [*]; done), by repeat (first | exact Drawn0.refl _ | apply Drawn0.step)⟩

/-! ### spec_l2Id: function 56 -/
def spec_l2Id.f (k : Nat) (a0 : ByteArray) : Option (Bool) := if (a0.size : Int) = 8 then (if 0 ≤ 7 then (if 7 ≤ (a0.size : Int) then ((spec_l2Seven.f k (a0.extract 0 7)).bind fun t123 => (if t123 = true then (if 7 < (a0.size : Int) then ((spec_l2Check.f k (a0.extract 0 7)).bind fun t124 => (some ((bt a0 7) == t124))) else (none)) else (some false))) else (none)) else (none)) else (some false)
theorem spec_l2Id.mono : ∀ a0 k, LeO (spec_l2Id.f k a0) (spec_l2Id.f (k + 1) a0) := by
 intro a0 k
 unfold spec_l2Id.f
 repeat' first
   | (with_reducible exact spec_l2Check.mono _ _)
   | (with_reducible exact spec_l2Seven.mono _ _)
   | (with_reducible exact LeO.refl _)
   | (with_reducible exact LeO.none _)
   | (with_reducible refine LeO.ite ?_ ?_)
   | (with_reducible refine LeO.bind ?_ (fun _ => ?_))
   | exact spec_l2Check.mono _ _
   | exact spec_l2Seven.mono _ _
   | exact LeO.none _
   | refine LeO.ite ?_ ?_
   | refine LeO.bind ?_ (fun _ => ?_)
set_option maxHeartbeats 8000000 in
set_option maxRecDepth 100000 in
theorem spec_l2Id.calls (k : Nat) (a0 : ByteArray) (r : Bool) (w : World) (h : spec_l2Id.f k a0 = some r) :
  Calls Try.prog 56 #[.string a0] w fun e w' => e = .returned (.bool r) ∧ Drawn0 w w' := by
 have H : (if (a0.size : Int) = 8 then (if 0 ≤ 7 then (if 7 ≤ (a0.size : Int) then ((spec_l2Seven.f k (a0.extract 0 7)).bind fun t123 => (if t123 = true then (if 7 < (a0.size : Int) then ((spec_l2Check.f k (a0.extract 0 7)).bind fun t124 => (some ((bt a0 7) == t124))) else (none)) else (some false))) else (none)) else (none)) else (some false)) = some r := h
 clear h
 by_cases c2 : (a0.size : Int) = 8
 ·rw [if_pos c2] at H
  have c2b0 : ((a0.size : Int) == 8) = true := beq_iff_eq.mpr c2
  have c2b1 : ((a0.size : Int) != 8) = false := bne_eq_false_iff_eq.mpr c2
  clear c2
  by_cases c3 : 0 ≤ 7
  ·rw [if_pos c3] at H
   have c3b0 := eq_true c3
   have c3b1 : decide (0 ≤ 7) = true := decide_eq_true c3
   clear c3
   by_cases c4 : 7 ≤ (a0.size : Int)
   ·rw [if_pos c4] at H
    have c4b0 := eq_true c4
    have c4b1 : decide (7 ≤ (a0.size : Int)) = true := decide_eq_true c4
    clear c4
    replace H := Option.bind_eq_some_iff.mp H
    obtain ⟨t123, A50, H⟩ := H
    replace H : (if t123 = true then (if 7 < (a0.size : Int) then ((spec_l2Check.f k (a0.extract 0 7)).bind fun t124 => (some ((bt a0 7) == t124))) else (none)) else (some false)) = some r := H
    have A5 := Aside0.mk A50
    clear A50
    by_cases c6 : t123 = true
    ·subst c6
     have H1 : (if 7 < (a0.size : Int) then ((spec_l2Check.f k (a0.extract 0 7)).bind fun t124 => (some ((bt a0 7) == t124))) else (none)) = some r := by rw [if_pos rfl] at H; exact H
     clear H
     have H := H1
     clear H1
     by_cases c7 : 7 < (a0.size : Int)
     ·rw [if_pos c7] at H
      have c7b0 : decide (7 < (a0.size : Int)) = true := decide_eq_true c7
      have c7b1 : decide (7 < a0.size) = true := decide_eq_true (by omega)
      clear c7
      have c9b0 := eq_true (oda : 0 ≤ 7)
      have c10b0 := eq_true (oda : 7 ≤ (a0.size : Int))
      replace H := Option.bind_eq_some_iff.mp H
      obtain ⟨t124, A110, H⟩ := H
      replace H : (some ((bt a0 7) == t124)) = some r := H
      have A11 := Aside0.mk A110
      clear A110
      obtain rfl := Option.some.inj H
      go_enter Try.func56, Try.ntmps56
      go_wp2_with (first | (go_at_call 61; (with_reducible refine (spec_l2Seven.calls k (a0.extract 0 7) true _ A5.out).mono ?_); rintro e w' ⟨rfl, ⟨nd, rfl⟩⟩; (try first | exact ⟨rfl, _, World.drewN_drewN _ _ _⟩ | exact ⟨rfl, _, Eq.trans (World.drewN_drewN _ _ _) (congrArg (World.drewN _) (Nat.add_assoc _ _ _))⟩); have p8 : 0 ≤ (7 : Int) := (by omega); have q8 : 7 < a0.size := (by have : (7 : Int) < (a0.size : Int) := oda; omega); have hx8 : ∀ h : 7 < a0.size, ((a0[7]'h).toNat : Int) = bt a0 7 := bt_at a0 7; clear p8; have qi8 : (7 < (a0.size : Int)) = True := eq_true (oda); replace q8 := eq_true q8) | (go_at_call 62; (with_reducible refine (spec_l2Check.calls k (a0.extract 0 7) t124 _ A11.out).mono ?_); rintro e w' ⟨rfl, ⟨nd, rfl⟩⟩; (try first | exact ⟨rfl, _, World.drewN_drewN _ _ _⟩ | exact ⟨rfl, _, Eq.trans (World.drewN_drewN _ _ _) (congrArg (World.drewN _) (Nat.add_assoc _ _ _))⟩)))
      repeat (go_quiet (first | (go_at_call 61; (with_reducible refine (spec_l2Seven.calls k (a0.extract 0 7) true _ A5.out).mono ?_); rintro e w' ⟨rfl, ⟨nd, rfl⟩⟩; (try first | exact ⟨rfl, _, World.drewN_drewN _ _ _⟩ | exact ⟨rfl, _, Eq.trans (World.drewN_drewN _ _ _) (congrArg (World.drewN _) (Nat.add_assoc _ _ _))⟩); have p8 : 0 ≤ (7 : Int) := (by omega); have q8 : 7 < a0.size := (by have : (7 : Int) < (a0.size : Int) := oda; omega); have hx8 : ∀ h : 7 < a0.size, ((a0[7]'h).toNat : Int) = bt a0 7 := bt_at a0 7; clear p8; have qi8 : (7 < (a0.size : Int)) = True := eq_true (oda); replace q8 := eq_true q8) | (go_at_call 62; (with_reducible refine (spec_l2Check.calls k (a0.extract 0 7) t124 _ A11.out).mono ?_); rintro e w' ⟨rfl, ⟨nd, rfl⟩⟩; (try first | exact ⟨rfl, _, World.drewN_drewN _ _ _⟩ | exact ⟨rfl, _, Eq.trans (World.drewN_drewN _ _ _) (congrArg (World.drewN _) (Nat.add_assoc _ _ _))⟩))); try go_wp2_with (first | (go_at_call 61; (with_reducible refine (spec_l2Seven.calls k (a0.extract 0 7) true _ A5.out).mono ?_); rintro e w' ⟨rfl, ⟨nd, rfl⟩⟩; (try first | exact ⟨rfl, _, World.drewN_drewN _ _ _⟩ | exact ⟨rfl, _, Eq.trans (World.drewN_drewN _ _ _) (congrArg (World.drewN _) (Nat.add_assoc _ _ _))⟩); have p8 : 0 ≤ (7 : Int) := (by omega); have q8 : 7 < a0.size := (by have : (7 : Int) < (a0.size : Int) := oda; omega); have hx8 : ∀ h : 7 < a0.size, ((a0[7]'h).toNat : Int) = bt a0 7 := bt_at a0 7; clear p8; have qi8 : (7 < (a0.size : Int)) = True := eq_true (oda); replace q8 := eq_true q8) | (go_at_call 62; (with_reducible refine (spec_l2Check.calls k (a0.extract 0 7) t124 _ A11.out).mono ?_); rintro e w' ⟨rfl, ⟨nd, rfl⟩⟩; (try first | exact ⟨rfl, _, World.drewN_drewN _ _ _⟩ | exact ⟨rfl, _, Eq.trans (World.drewN_drewN _ _ _) (congrArg (World.drewN _) (Nat.add_assoc _ _ _))⟩))))
      go_ret
      exact ⟨by first | rfl | (simp; done) | (simp [*]; done), by repeat (first | exact Drawn0.refl _ | apply Drawn0.step)⟩
     ·rw [if_neg c7] at H
      exact absurd H (by simp)
    ·replace c6 := Bool.eq_false_iff.mpr c6
     subst c6
     have H1 : (some false) = some r := by rw [if_neg (show ¬ (false = true) by decide)] at H; exact H
     clear H
     have H := H1
     clear H1
     obtain rfl := Option.some.inj H
     go_enter Try.func56, Try.ntmps56
     go_wp2_with (first | (go_at_call 61; (with_reducible refine (spec_l2Seven.calls k (a0.extract 0 7) false _ A5.out).mono ?_); rintro e w' ⟨rfl, ⟨nd, rfl⟩⟩; (try first | exact ⟨rfl, _, World.drewN_drewN _ _ _⟩ | exact ⟨rfl, _, Eq.trans (World.drewN_drewN _ _ _) (congrArg (World.drewN _) (Nat.add_assoc _ _ _))⟩)))
     repeat (go_quiet (first | (go_at_call 61; (with_reducible refine (spec_l2Seven.calls k (a0.extract 0 7) false _ A5.out).mono ?_); rintro e w' ⟨rfl, ⟨nd, rfl⟩⟩; (try first | exact ⟨rfl, _, World.drewN_drewN _ _ _⟩ | exact ⟨rfl, _, Eq.trans (World.drewN_drewN _ _ _) (congrArg (World.drewN _) (Nat.add_assoc _ _ _))⟩))); try go_wp2_with (first | (go_at_call 61; (with_reducible refine (spec_l2Seven.calls k (a0.extract 0 7) false _ A5.out).mono ?_); rintro e w' ⟨rfl, ⟨nd, rfl⟩⟩; (try first | exact ⟨rfl, _, World.drewN_drewN _ _ _⟩ | exact ⟨rfl, _, Eq.trans (World.drewN_drewN _ _ _) (congrArg (World.drewN _) (Nat.add_assoc _ _ _))⟩))))
     go_ret
     exact ⟨by first | rfl | (simp; done) | (simp [*]; done), by repeat (first | exact Drawn0.refl _ | apply Drawn0.step)⟩
   ·rw [if_neg c4] at H
    exact absurd H (by simp)
  ·rw [if_neg c3] at H
   exact absurd H (by simp)
 ·rw [if_neg c2] at H
  have c2b0 : ((a0.size : Int) == 8) = false := beq_eq_false_iff_ne.mpr c2
  have c2b1 : ((a0.size : Int) != 8) = true := bne_iff_ne.mpr c2
  obtain rfl := Option.some.inj H
  go_enter Try.func56, Try.ntmps56
  go_wp2
  repeat (go_quiet (fail); try go_wp2)
  go_ret
  exact ⟨by first | rfl | (simp; done) | (simp [*]; done), by repeat (first | exact Drawn0.refl _ | apply Drawn0.step)⟩

/-! ### spec_l2Good: function 48 -/
def spec_l2Good.f (k : Nat) (a0_0 : ByteArray) (a0_1 : Int) (a0_2 : Int) (a0_3 : Int) (a0_4 : Int) : Option (Bool) := (spec_l2Id.f k a0_0).bind fun t126 => (if t126 = true then ((spec_l1In.f a0_1 1 2).bind fun t127 => (if t127 = true then ((spec_l1In.f a0_2 1 32000).bind fun t128 => (if t128 = true then ((spec_l1In.f a0_3 1 3).bind fun t129 => (if t129 = true then ((spec_l1In.f a0_4 1 9).bind fun t130 => (some t130)) else (some false))) else (some false))) else (some false))) else (some false))
theorem spec_l2Good.mono : ∀ a0 a1 a2 a3 a4 k, LeO (spec_l2Good.f k a0 a1 a2 a3 a4) (spec_l2Good.f (k + 1) a0 a1 a2 a3 a4) := by
 intro a0 a1 a2 a3 a4 k
 unfold spec_l2Good.f
 repeat' first
   | (with_reducible exact spec_l2Id.mono _ _)
   | (with_reducible exact LeO.refl _)
   | (with_reducible exact LeO.none _)
   | (with_reducible refine LeO.ite ?_ ?_)
   | (with_reducible refine LeO.bind ?_ (fun _ => ?_))
   | exact spec_l2Id.mono _ _
   | exact LeO.none _
   | refine LeO.ite ?_ ?_
   | refine LeO.bind ?_ (fun _ => ?_)
set_option maxHeartbeats 8000000 in
set_option maxRecDepth 100000 in
theorem spec_l2Good.calls (k : Nat) (a0_0 : ByteArray) (a0_1 : Int) (a0_2 : Int) (a0_3 : Int) (a0_4 : Int) (r : Bool) (w : World) (h : spec_l2Good.f k a0_0 a0_1 a0_2 a0_3 a0_4 = some r) :
  Calls Try.prog 48 #[.agg #[.string a0_0, .int .i64 a0_1, .int .i64 a0_2, .int .i64 a0_3, .int .i64 a0_4]] w fun e w' => e = .returned (.bool r) ∧ Below w.heap.size w w' := by
 have hu50 := Try.underlying50
 have HB := Aside0.mk (Below.refl w.heap.size w)
 have H : ((spec_l2Id.f k a0_0).bind fun t126 => (if t126 = true then ((spec_l1In.f a0_1 1 2).bind fun t127 => (if t127 = true then ((spec_l1In.f a0_2 1 32000).bind fun t128 => (if t128 = true then ((spec_l1In.f a0_3 1 3).bind fun t129 => (if t129 = true then ((spec_l1In.f a0_4 1 9).bind fun t130 => (some t130)) else (some false))) else (some false))) else (some false))) else (some false))) = some r := h
 clear h
 replace H := Option.bind_eq_some_iff.mp H
 obtain ⟨t126, A20, H⟩ := H
 replace H : (if t126 = true then ((spec_l1In.f a0_1 1 2).bind fun t127 => (if t127 = true then ((spec_l1In.f a0_2 1 32000).bind fun t128 => (if t128 = true then ((spec_l1In.f a0_3 1 3).bind fun t129 => (if t129 = true then ((spec_l1In.f a0_4 1 9).bind fun t130 => (some t130)) else (some false))) else (some false))) else (some false))) else (some false)) = some r := H
 have A2 := Aside0.mk A20
 clear A20
 by_cases c3 : t126 = true
 ·subst c3
  have H1 : ((spec_l1In.f a0_1 1 2).bind fun t127 => (if t127 = true then ((spec_l1In.f a0_2 1 32000).bind fun t128 => (if t128 = true then ((spec_l1In.f a0_3 1 3).bind fun t129 => (if t129 = true then ((spec_l1In.f a0_4 1 9).bind fun t130 => (some t130)) else (some false))) else (some false))) else (some false))) = some r := by rw [if_pos rfl] at H; exact H
  clear H
  have H := H1
  clear H1
  replace H := Option.bind_eq_some_iff.mp H
  obtain ⟨t127, A40, H⟩ := H
  replace H : (if t127 = true then ((spec_l1In.f a0_2 1 32000).bind fun t128 => (if t128 = true then ((spec_l1In.f a0_3 1 3).bind fun t129 => (if t129 = true then ((spec_l1In.f a0_4 1 9).bind fun t130 => (some t130)) else (some false))) else (some false))) else (some false)) = some r := H
  have A4 := Aside0.mk A40
  clear A40
  by_cases c5 : t127 = true
  ·subst c5
   have H1 : ((spec_l1In.f a0_2 1 32000).bind fun t128 => (if t128 = true then ((spec_l1In.f a0_3 1 3).bind fun t129 => (if t129 = true then ((spec_l1In.f a0_4 1 9).bind fun t130 => (some t130)) else (some false))) else (some false))) = some r := by rw [if_pos rfl] at H; exact H
   clear H
   have H := H1
   clear H1
   replace H := Option.bind_eq_some_iff.mp H
   obtain ⟨t128, A60, H⟩ := H
   replace H : (if t128 = true then ((spec_l1In.f a0_3 1 3).bind fun t129 => (if t129 = true then ((spec_l1In.f a0_4 1 9).bind fun t130 => (some t130)) else (some false))) else (some false)) = some r := H
   have A6 := Aside0.mk A60
   clear A60
   by_cases c7 : t128 = true
   ·subst c7
    have H1 : ((spec_l1In.f a0_3 1 3).bind fun t129 => (if t129 = true then ((spec_l1In.f a0_4 1 9).bind fun t130 => (some t130)) else (some false))) = some r := by rw [if_pos rfl] at H; exact H
    clear H
    have H := H1
    clear H1
    replace H := Option.bind_eq_some_iff.mp H
    obtain ⟨t129, A80, H⟩ := H
    replace H : (if t129 = true then ((spec_l1In.f a0_4 1 9).bind fun t130 => (some t130)) else (some false)) = some r := H
    have A8 := Aside0.mk A80
    clear A80
    by_cases c9 : t129 = true
    ·subst c9
     have H1 : ((spec_l1In.f a0_4 1 9).bind fun t130 => (some t130)) = some r := by rw [if_pos rfl] at H; exact H
     clear H
     have H := H1
     clear H1
     replace H := Option.bind_eq_some_iff.mp H
     obtain ⟨t130, A100, H⟩ := H
     replace H : (some t130) = some r := H
     have A10 := Aside0.mk A100
     clear A100
     obtain rfl := Option.some.inj H
     go_enter Try.func48, Try.ntmps48
     go_wp2_with (first | ((with_reducible refine gate_dst (N := 1) rfl ?_); refine box_event ?hg (N := 1) ?hd (cs := #[.string a0_0, .int .i64 a0_1, .int .i64 a0_2, .int .i64 a0_3, .int .i64 a0_4]) (t := 50) ?hr ?_; (case hd => rfl); (case hg => rfl); (case hr => first | (go_simp; done) | (go_simp; rfl)); intro gb125 hg w11 hbox hb; have n0_ := Aside0.mk (below_step (bel HB) hb); have n1_ := Aside0.mk (hbox); have n2_ := Aside0.mk ((by rw [hg]; exact (below_size (bel HB)) : w.heap.size ≤ gb125)); have n3_ := Aside0.mk ((by rw [hg]; exact (below_size (bel HB)) : w.heap.size ≤ gb125)); clear HB; have HB := n0_; have BK125 := n1_; have GW125 := n2_; have GE125 := n3_; clear n0_ n1_ n2_ n3_; clear hb hbox hg; have hcz12_0 : w11.cell? ⟨gb125, 0, none⟩ = some (.string a0_0) := (blk_cell BK125.out 0).trans rfl; have hcz12_1 : w11.cell? ⟨gb125, 1, none⟩ = some (.int .i64 a0_1) := (blk_cell BK125.out 1).trans rfl; have hcz12_2 : w11.cell? ⟨gb125, 2, none⟩ = some (.int .i64 a0_2) := (blk_cell BK125.out 2).trans rfl; have hcz12_3 : w11.cell? ⟨gb125, 3, none⟩ = some (.int .i64 a0_3) := (blk_cell BK125.out 3).trans rfl; have hcz12_4 : w11.cell? ⟨gb125, 4, none⟩ = some (.int .i64 a0_4) := (blk_cell BK125.out 4).trans rfl; have hfz12_0 := blk_frozen BK125.out 0; have hfz12_1 := blk_frozen BK125.out 1; have hfz12_2 := blk_frozen BK125.out 2; have hfz12_3 := blk_frozen BK125.out 3; have hfz12_4 := blk_frozen BK125.out 4) | ((with_reducible refine gate_callee (f := 56) rfl ?_); refine goesL_ (some 5) rfl rfl Try.func56 (by kernel_rfl) rfl #[.string a0_0] rfl gmp ?_; (with_reducible refine (spec_l2Id.calls k a0_0 true _ A2.out).mono ?_); rintro e w' ⟨rfl, ⟨nd, rfl⟩⟩; refine ⟨_, rfl, ?_⟩) | (go_at_call 35; (with_reducible refine (spec_l1In.calls a0_1 1 2 true _ A4.out).mono ?_); rintro e w' ⟨rfl, ⟨nd, rfl⟩⟩) | (go_at_call 35; (with_reducible refine (spec_l1In.calls a0_2 1 32000 true _ A6.out).mono ?_); rintro e w' ⟨rfl, ⟨nd, rfl⟩⟩) | (go_at_call 35; (with_reducible refine (spec_l1In.calls a0_3 1 3 true _ A8.out).mono ?_); rintro e w' ⟨rfl, ⟨nd, rfl⟩⟩) | (go_at_call 35; (with_reducible refine (spec_l1In.calls a0_4 1 9 t130 _ A10.out).mono ?_); rintro e w' ⟨rfl, ⟨nd, rfl⟩⟩))
     go_ret
     exact ⟨by first | rfl | (simp [errW_none, errW_some] <;> rfl) | (simp [*, errW_none, errW_some] <;> rfl), bel1 HB GE125⟩
    ·replace c9 := Bool.eq_false_iff.mpr c9
     subst c9
     have H1 : (some false) = some r := by rw [if_neg (show ¬ (false = true) by decide)] at H; exact H
     clear H
     have H := H1
     clear H1
     obtain rfl := Option.some.inj H
     go_enter Try.func48, Try.ntmps48
     go_wp2_with (first | ((with_reducible refine gate_dst (N := 1) rfl ?_); refine box_event ?hg (N := 1) ?hd (cs := #[.string a0_0, .int .i64 a0_1, .int .i64 a0_2, .int .i64 a0_3, .int .i64 a0_4]) (t := 50) ?hr ?_; (case hd => rfl); (case hg => rfl); (case hr => first | (go_simp; done) | (go_simp; rfl)); intro gb125 hg w13 hbox hb; have n0_ := Aside0.mk (below_step (bel HB) hb); have n1_ := Aside0.mk (hbox); have n2_ := Aside0.mk ((by rw [hg]; exact (below_size (bel HB)) : w.heap.size ≤ gb125)); have n3_ := Aside0.mk ((by rw [hg]; exact (below_size (bel HB)) : w.heap.size ≤ gb125)); clear HB; have HB := n0_; have BK125 := n1_; have GW125 := n2_; have GE125 := n3_; clear n0_ n1_ n2_ n3_; clear hb hbox hg; have hcz14_0 : w13.cell? ⟨gb125, 0, none⟩ = some (.string a0_0) := (blk_cell BK125.out 0).trans rfl; have hcz14_1 : w13.cell? ⟨gb125, 1, none⟩ = some (.int .i64 a0_1) := (blk_cell BK125.out 1).trans rfl; have hcz14_2 : w13.cell? ⟨gb125, 2, none⟩ = some (.int .i64 a0_2) := (blk_cell BK125.out 2).trans rfl; have hcz14_3 : w13.cell? ⟨gb125, 3, none⟩ = some (.int .i64 a0_3) := (blk_cell BK125.out 3).trans rfl; have hcz14_4 : w13.cell? ⟨gb125, 4, none⟩ = some (.int .i64 a0_4) := (blk_cell BK125.out 4).trans rfl; have hfz14_0 := blk_frozen BK125.out 0; have hfz14_1 := blk_frozen BK125.out 1; have hfz14_2 := blk_frozen BK125.out 2; have hfz14_3 := blk_frozen BK125.out 3; have hfz14_4 := blk_frozen BK125.out 4) | ((with_reducible refine gate_callee (f := 56) rfl ?_); refine goesL_ (some 5) rfl rfl Try.func56 (by kernel_rfl) rfl #[.string a0_0] rfl gmp ?_; (with_reducible refine (spec_l2Id.calls k a0_0 true _ A2.out).mono ?_); rintro e w' ⟨rfl, ⟨nd, rfl⟩⟩; refine ⟨_, rfl, ?_⟩) | (go_at_call 35; (with_reducible refine (spec_l1In.calls a0_1 1 2 true _ A4.out).mono ?_); rintro e w' ⟨rfl, ⟨nd, rfl⟩⟩) | (go_at_call 35; (with_reducible refine (spec_l1In.calls a0_2 1 32000 true _ A6.out).mono ?_); rintro e w' ⟨rfl, ⟨nd, rfl⟩⟩) | (go_at_call 35; (with_reducible refine (spec_l1In.calls a0_3 1 3 false _ A8.out).mono ?_); rintro e w' ⟨rfl, ⟨nd, rfl⟩⟩))
     go_ret
     exact ⟨by first | rfl | (simp [errW_none, errW_some] <;> rfl) | (simp [*, errW_none, errW_some] <;> rfl), bel1 HB GE125⟩
   ·replace c7 := Bool.eq_false_iff.mpr c7
    subst c7
    have H1 : (some false) = some r := by rw [if_neg (show ¬ (false = true) by decide)] at H; exact H
    clear H
    have H := H1
    clear H1
    obtain rfl := Option.some.inj H
    go_enter Try.func48, Try.ntmps48
    go_wp2_with (first | ((with_reducible refine gate_dst (N := 1) rfl ?_); refine box_event ?hg (N := 1) ?hd (cs := #[.string a0_0, .int .i64 a0_1, .int .i64 a0_2, .int .i64 a0_3, .int .i64 a0_4]) (t := 50) ?hr ?_; (case hd => rfl); (case hg => rfl); (case hr => first | (go_simp; done) | (go_simp; rfl)); intro gb125 hg w15 hbox hb; have n0_ := Aside0.mk (below_step (bel HB) hb); have n1_ := Aside0.mk (hbox); have n2_ := Aside0.mk ((by rw [hg]; exact (below_size (bel HB)) : w.heap.size ≤ gb125)); have n3_ := Aside0.mk ((by rw [hg]; exact (below_size (bel HB)) : w.heap.size ≤ gb125)); clear HB; have HB := n0_; have BK125 := n1_; have GW125 := n2_; have GE125 := n3_; clear n0_ n1_ n2_ n3_; clear hb hbox hg; have hcz16_0 : w15.cell? ⟨gb125, 0, none⟩ = some (.string a0_0) := (blk_cell BK125.out 0).trans rfl; have hcz16_1 : w15.cell? ⟨gb125, 1, none⟩ = some (.int .i64 a0_1) := (blk_cell BK125.out 1).trans rfl; have hcz16_2 : w15.cell? ⟨gb125, 2, none⟩ = some (.int .i64 a0_2) := (blk_cell BK125.out 2).trans rfl; have hcz16_3 : w15.cell? ⟨gb125, 3, none⟩ = some (.int .i64 a0_3) := (blk_cell BK125.out 3).trans rfl; have hcz16_4 : w15.cell? ⟨gb125, 4, none⟩ = some (.int .i64 a0_4) := (blk_cell BK125.out 4).trans rfl; have hfz16_0 := blk_frozen BK125.out 0; have hfz16_1 := blk_frozen BK125.out 1; have hfz16_2 := blk_frozen BK125.out 2; have hfz16_3 := blk_frozen BK125.out 3; have hfz16_4 := blk_frozen BK125.out 4) | ((with_reducible refine gate_callee (f := 56) rfl ?_); refine goesL_ (some 5) rfl rfl Try.func56 (by kernel_rfl) rfl #[.string a0_0] rfl gmp ?_; (with_reducible refine (spec_l2Id.calls k a0_0 true _ A2.out).mono ?_); rintro e w' ⟨rfl, ⟨nd, rfl⟩⟩; refine ⟨_, rfl, ?_⟩) | (go_at_call 35; (with_reducible refine (spec_l1In.calls a0_1 1 2 true _ A4.out).mono ?_); rintro e w' ⟨rfl, ⟨nd, rfl⟩⟩) | (go_at_call 35; (with_reducible refine (spec_l1In.calls a0_2 1 32000 false _ A6.out).mono ?_); rintro e w' ⟨rfl, ⟨nd, rfl⟩⟩))
    go_ret
    exact ⟨by first | rfl | (simp [errW_none, errW_some] <;> rfl) | (simp [*, errW_none, errW_some] <;> rfl), bel1 HB GE125⟩
  ·replace c5 := Bool.eq_false_iff.mpr c5
   subst c5
   have H1 : (some false) = some r := by rw [if_neg (show ¬ (false = true) by decide)] at H; exact H
   clear H
   have H := H1
   clear H1
   obtain rfl := Option.some.inj H
   go_enter Try.func48, Try.ntmps48
   go_wp2_with (first | ((with_reducible refine gate_dst (N := 1) rfl ?_); refine box_event ?hg (N := 1) ?hd (cs := #[.string a0_0, .int .i64 a0_1, .int .i64 a0_2, .int .i64 a0_3, .int .i64 a0_4]) (t := 50) ?hr ?_; (case hd => rfl); (case hg => rfl); (case hr => first | (go_simp; done) | (go_simp; rfl)); intro gb125 hg w17 hbox hb; have n0_ := Aside0.mk (below_step (bel HB) hb); have n1_ := Aside0.mk (hbox); have n2_ := Aside0.mk ((by rw [hg]; exact (below_size (bel HB)) : w.heap.size ≤ gb125)); have n3_ := Aside0.mk ((by rw [hg]; exact (below_size (bel HB)) : w.heap.size ≤ gb125)); clear HB; have HB := n0_; have BK125 := n1_; have GW125 := n2_; have GE125 := n3_; clear n0_ n1_ n2_ n3_; clear hb hbox hg; have hcz18_0 : w17.cell? ⟨gb125, 0, none⟩ = some (.string a0_0) := (blk_cell BK125.out 0).trans rfl; have hcz18_1 : w17.cell? ⟨gb125, 1, none⟩ = some (.int .i64 a0_1) := (blk_cell BK125.out 1).trans rfl; have hcz18_2 : w17.cell? ⟨gb125, 2, none⟩ = some (.int .i64 a0_2) := (blk_cell BK125.out 2).trans rfl; have hcz18_3 : w17.cell? ⟨gb125, 3, none⟩ = some (.int .i64 a0_3) := (blk_cell BK125.out 3).trans rfl; have hcz18_4 : w17.cell? ⟨gb125, 4, none⟩ = some (.int .i64 a0_4) := (blk_cell BK125.out 4).trans rfl; have hfz18_0 := blk_frozen BK125.out 0; have hfz18_1 := blk_frozen BK125.out 1; have hfz18_2 := blk_frozen BK125.out 2; have hfz18_3 := blk_frozen BK125.out 3; have hfz18_4 := blk_frozen BK125.out 4) | ((with_reducible refine gate_callee (f := 56) rfl ?_); refine goesL_ (some 5) rfl rfl Try.func56 (by kernel_rfl) rfl #[.string a0_0] rfl gmp ?_; (with_reducible refine (spec_l2Id.calls k a0_0 true _ A2.out).mono ?_); rintro e w' ⟨rfl, ⟨nd, rfl⟩⟩; refine ⟨_, rfl, ?_⟩) | (go_at_call 35; (with_reducible refine (spec_l1In.calls a0_1 1 2 false _ A4.out).mono ?_); rintro e w' ⟨rfl, ⟨nd, rfl⟩⟩))
   go_ret
   exact ⟨by first | rfl | (simp [errW_none, errW_some] <;> rfl) | (simp [*, errW_none, errW_some] <;> rfl), bel1 HB GE125⟩
 ·replace c3 := Bool.eq_false_iff.mpr c3
  subst c3
  have H1 : (some false) = some r := by rw [if_neg (show ¬ (false = true) by decide)] at H; exact H
  clear H
  have H := H1
  clear H1
  obtain rfl := Option.some.inj H
  go_enter Try.func48, Try.ntmps48
  go_wp2_with (first | ((with_reducible refine gate_dst (N := 1) rfl ?_); refine box_event ?hg (N := 1) ?hd (cs := #[.string a0_0, .int .i64 a0_1, .int .i64 a0_2, .int .i64 a0_3, .int .i64 a0_4]) (t := 50) ?hr ?_; (case hd => rfl); (case hg => rfl); (case hr => first | (go_simp; done) | (go_simp; rfl)); intro gb125 hg w19 hbox hb; have n0_ := Aside0.mk (below_step (bel HB) hb); have n1_ := Aside0.mk (hbox); have n2_ := Aside0.mk ((by rw [hg]; exact (below_size (bel HB)) : w.heap.size ≤ gb125)); have n3_ := Aside0.mk ((by rw [hg]; exact (below_size (bel HB)) : w.heap.size ≤ gb125)); clear HB; have HB := n0_; have BK125 := n1_; have GW125 := n2_; have GE125 := n3_; clear n0_ n1_ n2_ n3_; clear hb hbox hg; have hcz20_0 : w19.cell? ⟨gb125, 0, none⟩ = some (.string a0_0) := (blk_cell BK125.out 0).trans rfl; have hcz20_1 : w19.cell? ⟨gb125, 1, none⟩ = some (.int .i64 a0_1) := (blk_cell BK125.out 1).trans rfl; have hcz20_2 : w19.cell? ⟨gb125, 2, none⟩ = some (.int .i64 a0_2) := (blk_cell BK125.out 2).trans rfl; have hcz20_3 : w19.cell? ⟨gb125, 3, none⟩ = some (.int .i64 a0_3) := (blk_cell BK125.out 3).trans rfl; have hcz20_4 : w19.cell? ⟨gb125, 4, none⟩ = some (.int .i64 a0_4) := (blk_cell BK125.out 4).trans rfl; have hfz20_0 := blk_frozen BK125.out 0; have hfz20_1 := blk_frozen BK125.out 1; have hfz20_2 := blk_frozen BK125.out 2; have hfz20_3 := blk_frozen BK125.out 3; have hfz20_4 := blk_frozen BK125.out 4) | ((with_reducible refine gate_callee (f := 56) rfl ?_); refine goesL_ (some 5) rfl rfl Try.func56 (by kernel_rfl) rfl #[.string a0_0] rfl gmp ?_; (with_reducible refine (spec_l2Id.calls k a0_0 false _ A2.out).mono ?_); rintro e w' ⟨rfl, ⟨nd, rfl⟩⟩; refine ⟨_, rfl, ?_⟩))
  go_ret
  exact ⟨by first | rfl | (simp [errW_none, errW_some] <;> rfl) | (simp [*, errW_none, errW_some] <;> rfl), bel1 HB GE125⟩

/-! ### spec_l2Find: function 49 -/
def spec_l2Find.l0 : Nat → List (S50) → ByteArray → Int → Option (Int)
 | 0, _, _, _ => none
 | k + 1, x0, x1, x5 => if x5 < (x0.length : Int) then (if 0 ≤ x5 then (if ((rd_T50 x0 x5).f0).toList = x1.toList then (some x5) else (spec_l2Find.l0 k x0 x1 (wrap64 (x5 + 1)))) else (none)) else (some (-1))
def spec_l2Find.f (k : Nat) (l0 : List (S50)) (a1 : ByteArray) : Option (Int) := spec_l2Find.l0 k l0 a1 0
theorem spec_l2Find.mono_l : ∀ k, (∀ y0 y1 y2, LeO (spec_l2Find.l0 k y0 y1 y2) (spec_l2Find.l0 (k + 1) y0 y1 y2))
 | 0 => fun _ _ _ r h => by simp [spec_l2Find.l0] at h
 | k + 1 => by
  have ih0 := spec_l2Find.mono_l k
  ·intro y0 y1 y2
   unfold spec_l2Find.l0
   repeat' first
   | (with_reducible exact ih0 _ _ _)
   | (with_reducible exact LeO.refl _)
   | (with_reducible exact LeO.none _)
   | (with_reducible refine LeO.ite ?_ ?_)
   | (with_reducible refine LeO.bind ?_ (fun _ => ?_))
   | exact ih0 _ _ _
   | exact LeO.none _
   | refine LeO.ite ?_ ?_
   | refine LeO.bind ?_ (fun _ => ?_)
theorem spec_l2Find.mono : ∀ a0 a1 k, LeO (spec_l2Find.f k a0 a1) (spec_l2Find.f (k + 1) a0 a1) := by
 intro a0 a1 k
 have ih0 := spec_l2Find.mono_l k
 unfold spec_l2Find.f
 repeat' first
   | (with_reducible exact ih0 _ _ _)
   | (with_reducible exact LeO.refl _)
   | (with_reducible exact LeO.none _)
   | (with_reducible refine LeO.ite ?_ ?_)
   | (with_reducible refine LeO.bind ?_ (fun _ => ?_))
   | exact ih0 _ _ _
   | exact LeO.none _
   | refine LeO.ite ?_ ?_
   | refine LeO.bind ?_ (fun _ => ?_)
set_option maxHeartbeats 8000000 in
set_option maxRecDepth 100000 in
theorem spec_l2Find.calls (k : Nat) (A0 : Option Addr) (c0 : Nat) (l0 : List (S50)) (a1 : ByteArray) (r : Int) (w : World) (hr0 : Kd.C k50 w A0 l0.length l0) (hc0 : l0.length ≤ c0) (h : spec_l2Find.f k l0 a1 = some r) :
  Calls Try.prog 49 #[.slice A0 l0.length c0, .string a1] w fun e w' => e = .returned (.int .i64 r) ∧ Drawn0 w w' := by
 have HR0 := Aside0.mk hr0
 have HC0 := Aside0.mk hc0
 clear hr0 hc0
 have H : (spec_l2Find.l0 k l0 a1 0) = some r := h
 clear h
 have H' := Aside0.mk H
 clear H
 go_enter Try.func49, Try.ntmps49
 go_wp2
 go_loopg [5] k (fun kq v5 w' => ∃ (x5_1 : Int), v5 = .int .i64 x5_1 ∧ Aside0 (spec_l2Find.l0 kq l0 a1 x5_1 = some r) ∧ Aside0 (kq ≤ k) ∧ Drawn0 w w')
 case atStart => exact ⟨(0), (by first | rfl | (simp; done) | (simp [*]; done)), H', ⟨Nat.le_refl _⟩, by repeat (first | exact Drawn0.refl _ | apply Drawn0.step)⟩
 case round =>
  clear H'
  try clear p2
  obtain ⟨x5_1, rfl, HA, HK1, ⟨m1, rfl⟩⟩ := hrel
  cases gk with
  | zero => exact absurd HA.out (by simp [spec_l2Find.l0])
  | succ k1 =>
   have H := HA.out
   clear HA
   simp only [spec_l2Find.l0] at H
   by_cases c3 : x5_1 < (l0.length : Int)
   ·rw [if_pos c3] at H
    have c3b0 : decide (x5_1 < (l0.length : Int)) = true := decide_eq_true c3
    clear c3
    by_cases c4 : 0 ≤ x5_1
    ·rw [if_pos c4] at H
     have c4b0 : decide (0 ≤ x5_1) = true := decide_eq_true c4
     clear c4
     by_cases c5 : ((rd_T50 l0 x5_1).f0).toList = a1.toList
     ·rw [if_pos c5] at H
      have c5b0 : (((rd_T50 l0 x5_1).f0).toList == a1.toList) = true := beq_iff_eq.mpr c5
      have c5b1 : (((rd_T50 l0 x5_1).f0).toList != a1.toList) = false := bne_eq_false_iff_eq.mpr c5
      clear c5
      obtain rfl := Option.some.inj H
      have p131 : 0 ≤ (x5_1 : Int) := oda
      have q131 : x5_1 < (l0.length : Int) := oda
      obtain ⟨ad131, e131, hx131_0, hx131_1, hx131_2, hx131_3, hx131_4⟩ := at_T50 HR0.out x5_1 p131 q131
      cases e131
      replace p131 := eq_true p131
      replace q131 := eq_true q131
      go_wp2
      go_ret
      exact ⟨by first | rfl | (simp; done) | (simp [*]; done), by repeat (first | exact Drawn0.refl _ | apply Drawn0.step)⟩
     ·rw [if_neg c5] at H
      have c5b0 : (((rd_T50 l0 x5_1).f0).toList == a1.toList) = false := beq_eq_false_iff_ne.mpr c5
      have c5b1 : (((rd_T50 l0 x5_1).f0).toList != a1.toList) = true := bne_iff_ne.mpr c5
      have H' := Aside0.mk H
      clear H
      have p131 : 0 ≤ (x5_1 : Int) := oda
      have q131 : x5_1 < (l0.length : Int) := oda
      obtain ⟨ad131, e131, hx131_0, hx131_1, hx131_2, hx131_3, hx131_4⟩ := at_T50 HR0.out x5_1 p131 q131
      cases e131
      replace p131 := eq_true p131
      replace q131 := eq_true q131
      go_wp2
      go_roundg k1
      case measure => have := HK1.out; omega
      case rel => exact ⟨(wrap64 (x5_1 + 1)), (by first | rfl | (simp; done) | (simp [*]; done)), H', ⟨by have := HK1.out; omega⟩, by repeat (first | exact Drawn0.refl _ | apply Drawn0.step)⟩
    ·rw [if_neg c4] at H
     exact absurd H (by simp)
   ·rw [if_neg c3] at H
    have c3b0 : decide (x5_1 < (l0.length : Int)) = false := decide_eq_false c3
    clear c3
    obtain rfl := Option.some.inj H
    go_wp2
    go_ret
    exact ⟨by first | rfl | (simp; done) | (simp [*]; done), by repeat (first | exact Drawn0.refl _ | apply Drawn0.step)⟩

/-! ### spec_l2List: function 34 -/
mutual
def spec_l2List.l0 : Nat → List (S50) → Int → Option (Bool)
 | 0, _, _ => none
 | k + 1, x0, x3 => if x3 < (x0.length : Int) then (spec_l2List.j1 k x0 x3 (decide (x3 ≤ 12))) else (spec_l2List.j1 k x0 x3 false)
def spec_l2List.j1 : Nat → List (S50) → Int → Bool → Option (Bool)
 | 0, _, _, _ => none
 | k + 1, x0, x3, x11 => if x11 = true then (if 0 ≤ x3 then (if x3 < (x0.length : Int) then ((spec_l2Good.f k ((rd_T50 x0 x3).f0) ((rd_T50 x0 x3).f1) ((rd_T50 x0 x3).f2) ((rd_T50 x0 x3).f3) ((rd_T50 x0 x3).f4)).bind fun t133 => (if t133 = true then ((spec_l2Find.f k x0 ((rd_T50 x0 x3).f0)).bind fun t135 => (if t135 = x3 then (spec_l2List.l0 k x0 (wrap64 (x3 + 1))) else (some false))) else (some false))) else (none)) else (none)) else (some (decide ((x0.length : Int) ≤ 12)))
end
def spec_l2List.f (k : Nat) (l0 : List (S50)) : Option (Bool) := spec_l2List.l0 k l0 0
theorem spec_l2List.mono_l : ∀ k, (∀ y0 y1, LeO (spec_l2List.l0 k y0 y1) (spec_l2List.l0 (k + 1) y0 y1)) ∧ (∀ y0 y1 y2, LeO (spec_l2List.j1 k y0 y1 y2) (spec_l2List.j1 (k + 1) y0 y1 y2))
 | 0 => ⟨fun _ _ r h => by simp [spec_l2List.l0] at h, fun _ _ _ r h => by simp [spec_l2List.j1] at h⟩
 | k + 1 => by
  obtain ⟨ih0, ih1⟩ := spec_l2List.mono_l k
  refine ⟨?_, ?_⟩
  ·intro y0 y1
   unfold spec_l2List.l0
   repeat' first
   | (with_reducible exact ih0 _ _)
   | (with_reducible exact ih1 _ _ _)
   | (with_reducible exact spec_l2Find.mono _ _ _)
   | (with_reducible exact spec_l2Good.mono _ _ _ _ _ _)
   | (with_reducible exact LeO.refl _)
   | (with_reducible exact LeO.none _)
   | (with_reducible refine LeO.ite ?_ ?_)
   | (with_reducible refine LeO.bind ?_ (fun _ => ?_))
   | exact ih0 _ _
   | exact ih1 _ _ _
   | exact spec_l2Find.mono _ _ _
   | exact spec_l2Good.mono _ _ _ _ _ _
   | exact LeO.none _
   | refine LeO.ite ?_ ?_
   | refine LeO.bind ?_ (fun _ => ?_)
  ·intro y0 y1 y2
   unfold spec_l2List.j1
   repeat' first
   | (with_reducible exact ih0 _ _)
   | (with_reducible exact ih1 _ _ _)
   | (with_reducible exact spec_l2Find.mono _ _ _)
   | (with_reducible exact spec_l2Good.mono _ _ _ _ _ _)
   | (with_reducible exact LeO.refl _)
   | (with_reducible exact LeO.none _)
   | (with_reducible refine LeO.ite ?_ ?_)
   | (with_reducible refine LeO.bind ?_ (fun _ => ?_))
   | exact ih0 _ _
   | exact ih1 _ _ _
   | exact spec_l2Find.mono _ _ _
   | exact spec_l2Good.mono _ _ _ _ _ _
   | exact LeO.none _
   | refine LeO.ite ?_ ?_
   | refine LeO.bind ?_ (fun _ => ?_)
theorem spec_l2List.mono : ∀ a0 k, LeO (spec_l2List.f k a0) (spec_l2List.f (k + 1) a0) := by
 intro a0 k
 obtain ⟨ih0, ih1⟩ := spec_l2List.mono_l k
 unfold spec_l2List.f
 repeat' first
   | (with_reducible exact ih0 _ _)
   | (with_reducible exact ih1 _ _ _)
   | (with_reducible exact spec_l2Find.mono _ _ _)
   | (with_reducible exact spec_l2Good.mono _ _ _ _ _ _)
   | (with_reducible exact LeO.refl _)
   | (with_reducible exact LeO.none _)
   | (with_reducible refine LeO.ite ?_ ?_)
   | (with_reducible refine LeO.bind ?_ (fun _ => ?_))
   | exact ih0 _ _
   | exact ih1 _ _ _
   | exact spec_l2Find.mono _ _ _
   | exact spec_l2Good.mono _ _ _ _ _ _
   | exact LeO.none _
   | refine LeO.ite ?_ ?_
   | refine LeO.bind ?_ (fun _ => ?_)
set_option maxHeartbeats 8000000 in
set_option maxRecDepth 100000 in
theorem spec_l2List.calls (k : Nat) (A0 : Option Addr) (c0 : Nat) (l0 : List (S50)) (r : Bool) (w : World) (hr0 : Kd.C k50 w A0 l0.length l0) (hc0 : l0.length ≤ c0) (h : spec_l2List.f k l0 = some r) :
  Calls Try.prog 34 #[.slice A0 l0.length c0] w fun e w' => e = .returned (.bool r) ∧ Below w.heap.size w w' := by
 have hu50 := Try.underlying50
 have HR0 := Aside0.mk hr0
 have HC0 := Aside0.mk hc0
 clear hr0 hc0
 have HB := Aside0.mk (Below.refl w.heap.size w)
 have H : (spec_l2List.l0 k l0 0) = some r := h
 clear h
 have H' := Aside0.mk H
 clear H
 go_enter Try.func34, Try.ntmps34
 go_wp2
 go_loopg [3] k (fun kq v3 w' => ∃ (x3_1 : Int), v3 = .int .i64 x3_1 ∧ Aside0 (spec_l2List.l0 kq l0 x3_1 = some r) ∧ Aside0 (kq ≤ k) ∧ Aside0 (Below w.heap.size w w'))
 case atStart => exact ⟨(0), (by first | rfl | (simp; done) | (simp [*]; done)), H', ⟨Nat.le_refl _⟩, ⟨bel HB⟩⟩
 case round =>
  clear H'
  obtain ⟨x3_1, rfl, HA, HK1, HB⟩ := hrel
  cases gk with
  | zero => exact absurd HA.out (by simp [spec_l2List.l0])
  | succ k1 =>
   have H := HA.out
   clear HA
   simp only [spec_l2List.l0] at H
   have HC2 := Aside0.mk H
   clear H
   go_upto_region 2 with (fail)
   go_cut [11] (fun v11 wc => ∃ (kq : Nat) (x11_1 : Bool), v11 = .bool x11_1 ∧ Aside0 (spec_l2List.j1 kq l0 x3_1 x11_1 = some r) ∧ Aside0 (kq ≤ k1) ∧ Aside0 (Below w.heap.size w wc))
   case first =>
    have H := HC2.out
    clear HC2
    by_cases c3 : x3_1 < (l0.length : Int)
    ·rw [if_pos c3] at H
     have c3b0 : decide (x3_1 < (l0.length : Int)) = true := decide_eq_true c3
     clear c3
     (first | rw [c3b0] | (simp only [i64_w, i32_w]; rw [c3b0]) | skip)
     have H' := Aside0.mk H
     clear H
     go_wp2
     go_meet
     case rel => exact ⟨_, (decide (x3_1 ≤ 12)), (by first | rfl | (simp; done) | (simp [*]; done)), H', ⟨by have := HK1.out; first | omega | exact Nat.le_refl _⟩, ⟨bel HB⟩⟩
    ·rw [if_neg c3] at H
     have c3b0 : decide (x3_1 < (l0.length : Int)) = false := decide_eq_false c3
     clear c3
     (first | rw [c3b0] | (simp only [i64_w, i32_w]; rw [c3b0]) | skip)
     have H' := Aside0.mk H
     clear H
     go_wp2
     go_meet
     case rel => exact ⟨_, (false), (by first | rfl | (simp; done) | (simp [*]; done)), H', ⟨by have := HK1.out; first | omega | exact Nat.le_refl _⟩, ⟨bel HB⟩⟩
   case rest =>
    clear HC2
    try clear p2
    try clear c3
    try clear c3b0
    obtain ⟨kq, x11_1, rfl, HA, HJ1, HB⟩ := hcut
    cases kq with
    | zero => exact absurd HA.out (by simp [spec_l2List.j1])
    | succ kj1 =>
     have H := HA.out
     clear HA
     simp only [spec_l2List.j1] at H
     by_cases c4 : x11_1 = true
     ·subst c4
      have H1 : (if 0 ≤ x3_1 then (if x3_1 < (l0.length : Int) then ((spec_l2Good.f kj1 ((rd_T50 l0 x3_1).f0) ((rd_T50 l0 x3_1).f1) ((rd_T50 l0 x3_1).f2) ((rd_T50 l0 x3_1).f3) ((rd_T50 l0 x3_1).f4)).bind fun t133 => (if t133 = true then ((spec_l2Find.f kj1 l0 ((rd_T50 l0 x3_1).f0)).bind fun t135 => (if t135 = x3_1 then (spec_l2List.l0 kj1 l0 (wrap64 (x3_1 + 1))) else (some false))) else (some false))) else (none)) else (none)) = some r := by rw [if_pos rfl] at H; exact H
      clear H
      have H := H1
      clear H1
      by_cases c5 : 0 ≤ x3_1
      ·rw [if_pos c5] at H
       have c5b0 : decide (0 ≤ x3_1) = true := decide_eq_true c5
       clear c5
       by_cases c6 : x3_1 < (l0.length : Int)
       ·rw [if_pos c6] at H
        have c6b0 : decide (x3_1 < (l0.length : Int)) = true := decide_eq_true c6
        clear c6
        replace H := Option.bind_eq_some_iff.mp H
        obtain ⟨t133, A70, H⟩ := H
        replace H : (if t133 = true then ((spec_l2Find.f kj1 l0 ((rd_T50 l0 x3_1).f0)).bind fun t135 => (if t135 = x3_1 then (spec_l2List.l0 kj1 l0 (wrap64 (x3_1 + 1))) else (some false))) else (some false)) = some r := H
        have A7 := Aside0.mk A70
        clear A70
        by_cases c8 : t133 = true
        ·subst c8
         have H1 : ((spec_l2Find.f kj1 l0 ((rd_T50 l0 x3_1).f0)).bind fun t135 => (if t135 = x3_1 then (spec_l2List.l0 kj1 l0 (wrap64 (x3_1 + 1))) else (some false))) = some r := by rw [if_pos rfl] at H; exact H
         clear H
         have H := H1
         clear H1
         replace H := Option.bind_eq_some_iff.mp H
         obtain ⟨t135, A90, H⟩ := H
         replace H : (if t135 = x3_1 then (spec_l2List.l0 kj1 l0 (wrap64 (x3_1 + 1))) else (some false)) = some r := H
         have A9 := Aside0.mk A90
         clear A90
         by_cases c10 : t135 = x3_1
         ·rw [if_pos c10] at H
          have c10b0 : (t135 == x3_1) = true := beq_iff_eq.mpr c10
          have c10b1 : (t135 != x3_1) = false := bne_eq_false_iff_eq.mpr c10
          clear c10
          have H' := Aside0.mk H
          clear H
          have p132 : 0 ≤ (x3_1 : Int) := oda
          have q132 : x3_1 < (l0.length : Int) := oda
          obtain ⟨ad132, e132, hx132_0, hx132_1, hx132_2, hx132_3, hx132_4⟩ := at_T50 HR0.out x3_1 p132 q132
          cases e132
          replace hx132_0 := cel HB hx132_0
          replace hx132_1 := cel HB hx132_1
          replace hx132_2 := cel HB hx132_2
          replace hx132_3 := cel HB hx132_3
          replace hx132_4 := cel HB hx132_4
          replace p132 := eq_true p132
          replace q132 := eq_true q132
          go_wp2_with (first | ((with_reducible refine gate_callee (f := 48) rfl ?_); refine goesL_ (some 18) rfl rfl Try.func48 (by kernel_rfl) rfl #[.agg #[.string ((rd_T50 l0 x3_1).f0), .int .i64 ((rd_T50 l0 x3_1).f1), .int .i64 ((rd_T50 l0 x3_1).f2), .int .i64 ((rd_T50 l0 x3_1).f3), .int .i64 ((rd_T50 l0 x3_1).f4)]] rfl gmp ?_; (with_reducible refine (spec_l2Good.calls kj1 ((rd_T50 l0 x3_1).f0) ((rd_T50 l0 x3_1).f1) ((rd_T50 l0 x3_1).f2) ((rd_T50 l0 x3_1).f3) ((rd_T50 l0 x3_1).f4) true _ A7.out).mono ?_); rintro e w11 ⟨rfl, hb⟩; refine ⟨_, rfl, ?_⟩; have n0_ := Aside0.mk (below_step (bel HB) hb); clear HB; have HB := n0_; clear n0_; (try clear hb); (try clear hb2); (try clear hk); (try clear hi); have p134 : 0 ≤ (x3_1 : Int) := oda; have q134 : x3_1 < (l0.length : Int) := oda; obtain ⟨ad134, e134, hx134_0, hx134_1, hx134_2, hx134_3, hx134_4⟩ := at_T50 HR0.out x3_1 p134 q134; obtain rfl : ad132 = ad134 := (by injection e134); replace hx134_0 := cel HB hx134_0; replace hx134_1 := cel HB hx134_1; replace hx134_2 := cel HB hx134_2; replace hx134_3 := cel HB hx134_3; replace hx134_4 := cel HB hx134_4; replace p134 := eq_true p134; replace q134 := eq_true q134) | (go_at_call 49; (with_reducible refine (spec_l2Find.calls kj1 _ _ l0 ((rd_T50 l0 x3_1).f0) t135 _ ?side1 ?side2 A9.out).mono ?_); (case side1 => exact cdl (Kd.C_below HR0.out HB.out)); (case side2 => exact HC0.out); rintro e w' ⟨rfl, ⟨nd, rfl⟩⟩))
          go_roundg kj1
          case measure => have := HK1.out; have := HJ1.out; omega
          case rel => exact ⟨(wrap64 (x3_1 + 1)), (by first | rfl | (simp; done) | (simp [*]; done)), H', ⟨by have := HK1.out; have := HJ1.out; omega⟩, ⟨bel HB⟩⟩
         ·rw [if_neg c10] at H
          have c10b0 : (t135 == x3_1) = false := beq_eq_false_iff_ne.mpr c10
          have c10b1 : (t135 != x3_1) = true := bne_iff_ne.mpr c10
          obtain rfl := Option.some.inj H
          have p132 : 0 ≤ (x3_1 : Int) := oda
          have q132 : x3_1 < (l0.length : Int) := oda
          obtain ⟨ad132, e132, hx132_0, hx132_1, hx132_2, hx132_3, hx132_4⟩ := at_T50 HR0.out x3_1 p132 q132
          cases e132
          replace hx132_0 := cel HB hx132_0
          replace hx132_1 := cel HB hx132_1
          replace hx132_2 := cel HB hx132_2
          replace hx132_3 := cel HB hx132_3
          replace hx132_4 := cel HB hx132_4
          replace p132 := eq_true p132
          replace q132 := eq_true q132
          go_wp2_with (first | ((with_reducible refine gate_callee (f := 48) rfl ?_); refine goesL_ (some 18) rfl rfl Try.func48 (by kernel_rfl) rfl #[.agg #[.string ((rd_T50 l0 x3_1).f0), .int .i64 ((rd_T50 l0 x3_1).f1), .int .i64 ((rd_T50 l0 x3_1).f2), .int .i64 ((rd_T50 l0 x3_1).f3), .int .i64 ((rd_T50 l0 x3_1).f4)]] rfl gmp ?_; (with_reducible refine (spec_l2Good.calls kj1 ((rd_T50 l0 x3_1).f0) ((rd_T50 l0 x3_1).f1) ((rd_T50 l0 x3_1).f2) ((rd_T50 l0 x3_1).f3) ((rd_T50 l0 x3_1).f4) true _ A7.out).mono ?_); rintro e w12 ⟨rfl, hb⟩; refine ⟨_, rfl, ?_⟩; have n0_ := Aside0.mk (below_step (bel HB) hb); clear HB; have HB := n0_; clear n0_; (try clear hb); (try clear hb2); (try clear hk); (try clear hi); have p134 : 0 ≤ (x3_1 : Int) := oda; have q134 : x3_1 < (l0.length : Int) := oda; obtain ⟨ad134, e134, hx134_0, hx134_1, hx134_2, hx134_3, hx134_4⟩ := at_T50 HR0.out x3_1 p134 q134; obtain rfl : ad132 = ad134 := (by injection e134); replace hx134_0 := cel HB hx134_0; replace hx134_1 := cel HB hx134_1; replace hx134_2 := cel HB hx134_2; replace hx134_3 := cel HB hx134_3; replace hx134_4 := cel HB hx134_4; replace p134 := eq_true p134; replace q134 := eq_true q134) | (go_at_call 49; (with_reducible refine (spec_l2Find.calls kj1 _ _ l0 ((rd_T50 l0 x3_1).f0) t135 _ ?side1 ?side2 A9.out).mono ?_); (case side1 => exact cdl (Kd.C_below HR0.out HB.out)); (case side2 => exact HC0.out); rintro e w' ⟨rfl, ⟨nd, rfl⟩⟩))
          go_ret
          exact ⟨by first | rfl | (simp [errW_none, errW_some] <;> rfl) | (simp [*, errW_none, errW_some] <;> rfl), bel HB⟩
        ·replace c8 := Bool.eq_false_iff.mpr c8
         subst c8
         have H1 : (some false) = some r := by rw [if_neg (show ¬ (false = true) by decide)] at H; exact H
         clear H
         have H := H1
         clear H1
         obtain rfl := Option.some.inj H
         have p132 : 0 ≤ (x3_1 : Int) := oda
         have q132 : x3_1 < (l0.length : Int) := oda
         obtain ⟨ad132, e132, hx132_0, hx132_1, hx132_2, hx132_3, hx132_4⟩ := at_T50 HR0.out x3_1 p132 q132
         cases e132
         replace hx132_0 := cel HB hx132_0
         replace hx132_1 := cel HB hx132_1
         replace hx132_2 := cel HB hx132_2
         replace hx132_3 := cel HB hx132_3
         replace hx132_4 := cel HB hx132_4
         replace p132 := eq_true p132
         replace q132 := eq_true q132
         go_wp2_with (first | ((with_reducible refine gate_callee (f := 48) rfl ?_); refine goesL_ (some 18) rfl rfl Try.func48 (by kernel_rfl) rfl #[.agg #[.string ((rd_T50 l0 x3_1).f0), .int .i64 ((rd_T50 l0 x3_1).f1), .int .i64 ((rd_T50 l0 x3_1).f2), .int .i64 ((rd_T50 l0 x3_1).f3), .int .i64 ((rd_T50 l0 x3_1).f4)]] rfl gmp ?_; (with_reducible refine (spec_l2Good.calls kj1 ((rd_T50 l0 x3_1).f0) ((rd_T50 l0 x3_1).f1) ((rd_T50 l0 x3_1).f2) ((rd_T50 l0 x3_1).f3) ((rd_T50 l0 x3_1).f4) false _ A7.out).mono ?_); rintro e w13 ⟨rfl, hb⟩; refine ⟨_, rfl, ?_⟩; have n0_ := Aside0.mk (below_step (bel HB) hb); clear HB; have HB := n0_; clear n0_; (try clear hb); (try clear hb2); (try clear hk); (try clear hi)))
         go_ret
         exact ⟨by first | rfl | (simp [errW_none, errW_some] <;> rfl) | (simp [*, errW_none, errW_some] <;> rfl), bel HB⟩
       ·rw [if_neg c6] at H
        exact absurd H (by simp)
      ·rw [if_neg c5] at H
       exact absurd H (by simp)
     ·replace c4 := Bool.eq_false_iff.mpr c4
      subst c4
      have H1 : (some (decide ((l0.length : Int) ≤ 12))) = some r := by rw [if_neg (show ¬ (false = true) by decide)] at H; exact H
      clear H
      have H := H1
      clear H1
      obtain rfl := Option.some.inj H
      go_wp2
      go_ret
      exact ⟨by first | rfl | (simp [errW_none, errW_some] <;> rfl) | (simp [*, errW_none, errW_some] <;> rfl), bel HB⟩

end Go.Proofs.Ytlbmookfonlpjaa.P
