-- Written by a program of this session over the translation (a variant of the printer, see wip/gen); Lean checks it.
import Derived.Test.YtmpmcckjpkijnaaPx0
namespace Go.Proofs.Ytmpmcckjpkijnaa.P
open Go.RowKit Go.Proofs.YtmpmcckjpkijnaaW.PrintWords Go.Proofs.YtmpmcckjpkijnaaW.PrintLast Go.Proofs.YtmpmcckjpkijnaaW.PrintMore
attribute [local go_sem] Go.Proofs.Ytmpmcckjpkijnaa.V.isSome_setCell max2_int min2_int max_two min_two max_three min_three max_four min_four   -- for this text's walks alone
set_option linter.unusedVariables false
set_option linter.unusedSimpArgs false

/-! ### spec_l2Check: function 104 -/
def spec_l2Check.l0 : Nat → ByteArray → Int → Int → Option (Int)
 | 0, _, _, _ => none
 | k + 1, x0, x3, x4 => if x4 < 7 then (if 0 ≤ x4 then (if x4 < (x0.size : Int) then (if x4 < 3 then (spec_l2Check.l0 k x0 (wrap64 (x3 + (wrap64 ((wrap64 ((wrap64 ((wrap64 (bt x0 x4)) - 65)) + 1)) * (wrap64 (x4 + 2)))))) (wrap64 (x4 + 1))) else (spec_l2Check.l0 k x0 (wrap64 (x3 + (wrap64 ((wrap64 ((wrap64 (bt x0 x4)) - 48)) * (wrap64 (x4 + 2)))))) (wrap64 (x4 + 1)))) else (none)) else (none)) else (some ((65 + ((Int.tmod x3 23) % 256)) % 256))
def spec_l2Check.f (k : Nat) (a0 : ByteArray) : Option (Int) := spec_l2Check.l0 k a0 0 0
theorem spec_l2Check.mono_l : ∀ k, (∀ y0 y1 y2, LeO (spec_l2Check.l0 k y0 y1 y2) (spec_l2Check.l0 (k + 1) y0 y1 y2))
 | 0 => fun _ _ _ r h => by simp [spec_l2Check.l0] at h
 | k + 1 => by
  have ih0 := spec_l2Check.mono_l k
  ·intro y0 y1 y2
   unfold spec_l2Check.l0
   repeat' first
   | (with_reducible exact ih0 _ _ _)
   | (with_reducible exact LeO.refl _)
   | (with_reducible exact LeO.none _)
   | (with_reducible refine LeO.ite ?_ ?_)
   | (with_reducible refine LeO.bind ?_ (fun _ => ?_))
   | exact ih0 _ _ _
   | exact LeO.none _
   | refine LeO.ite ?_ ?_
   | refine LeO.bind ?_ (fun _ => ?_)
theorem spec_l2Check.mono : ∀ a0 k, LeO (spec_l2Check.f k a0) (spec_l2Check.f (k + 1) a0) := by
 intro a0 k
 have ih0 := spec_l2Check.mono_l k
 unfold spec_l2Check.f
 repeat' first
   | (with_reducible exact ih0 _ _ _)
   | (with_reducible exact LeO.refl _)
   | (with_reducible exact LeO.none _)
   | (with_reducible refine LeO.ite ?_ ?_)
   | (with_reducible refine LeO.bind ?_ (fun _ => ?_))
   | exact ih0 _ _ _
   | exact LeO.none _
   | refine LeO.ite ?_ ?_
   | refine LeO.bind ?_ (fun _ => ?_)
set_option maxHeartbeats 8000000 in
set_option maxRecDepth 100000 in
theorem spec_l2Check.calls (k : Nat) (a0 : ByteArray) (r : Int) (w : World) (h : spec_l2Check.f k a0 = some r) :
  Calls Try.prog 104 #[.string a0] w fun e w' => e = .returned (.int .u8 r) ∧ Drawn0 w w' := by
 have H : (spec_l2Check.l0 k a0 0 0) = some r := h
 clear h
 have H' := Aside0.mk H
 clear H
 go_enter Try.func104, Try.ntmps104
 go_wp2
 go_loopg [3, 4] k (fun kq v3 v4 w' => ∃ (x3_1 : Int) (x4_1 : Int), v3 = .int .i64 x3_1 ∧ v4 = .int .i64 x4_1 ∧ Aside0 (spec_l2Check.l0 kq a0 x3_1 x4_1 = some r) ∧ Aside0 (kq ≤ k) ∧ Drawn0 w w')
 case atStart => exact ⟨(0), (0), (by first | rfl | (simp; done) | (simp [*]; done)), (by first | rfl | (simp; done) | (simp [*]; done)), H', ⟨Nat.le_refl _⟩, by repeat (first | exact Drawn0.refl _ | apply Drawn0.step)⟩
 case round =>
  clear H'
  try clear c1
  obtain ⟨x3_1, x4_1, rfl, rfl, HA, HK1, ⟨m1, rfl⟩⟩ := hrel
  cases gk with
  | zero => exact absurd HA.out (by simp [spec_l2Check.l0])
  | succ k1 =>
   have H := HA.out
   clear HA
   simp only [spec_l2Check.l0] at H
   by_cases c2 : x4_1 < 7
   ·rw [if_pos c2] at H
    have c2b0 : decide (x4_1 < 7) = true := decide_eq_true c2
    clear c2
    by_cases c3 : 0 ≤ x4_1
    ·rw [if_pos c3] at H
     have c3b0 : decide (0 ≤ x4_1) = true := decide_eq_true c3
     clear c3
     by_cases c4 : x4_1 < (a0.size : Int)
     ·rw [if_pos c4] at H
      have c4b0 : decide (x4_1 < (a0.size : Int)) = true := decide_eq_true c4
      clear c4
      by_cases c6 : x4_1 < 3
      ·rw [if_pos c6] at H
       have c6b0 : decide (x4_1 < 3) = true := decide_eq_true c6
       clear c6
       have H' := Aside0.mk H
       clear H
       have p5 : 0 ≤ (x4_1 : Int) := oda
       have q5 : x4_1 < (a0.size : Int) := oda
       have hx5 := bt_at a0 x4_1
       replace p5 := eq_true p5
       replace q5 := eq_true q5
       have p7 : 0 ≤ (x4_1 : Int) := oda
       have q7 : x4_1 < (a0.size : Int) := oda
       have hx7 := bt_at a0 x4_1
       replace p7 := eq_true p7
       replace q7 := eq_true q7
       go_wp2
       go_roundg k1
       case measure => have := HK1.out; omega
       case rel => exact ⟨(wrap64 (x3_1 + (wrap64 ((wrap64 ((wrap64 ((wrap64 (bt a0 x4_1)) - 65)) + 1)) * (wrap64 (x4_1 + 2)))))), (wrap64 (x4_1 + 1)), (by first | rfl | (simp; done) | (simp [*]; done)), (by first | rfl | (simp; done) | (simp [*]; done)), H', ⟨by have := HK1.out; omega⟩, by repeat (first | exact Drawn0.refl _ | apply Drawn0.step)⟩
      ·rw [if_neg c6] at H
       have c6b0 : decide (x4_1 < 3) = false := decide_eq_false c6
       clear c6
       have H' := Aside0.mk H
       clear H
       have p5 : 0 ≤ (x4_1 : Int) := oda
       have q5 : x4_1 < (a0.size : Int) := oda
       have hx5 := bt_at a0 x4_1
       replace p5 := eq_true p5
       replace q5 := eq_true q5
       go_wp2
       go_roundg k1
       case measure => have := HK1.out; omega
       case rel => exact ⟨(wrap64 (x3_1 + (wrap64 ((wrap64 ((wrap64 (bt a0 x4_1)) - 48)) * (wrap64 (x4_1 + 2)))))), (wrap64 (x4_1 + 1)), (by first | rfl | (simp; done) | (simp [*]; done)), (by first | rfl | (simp; done) | (simp [*]; done)), H', ⟨by have := HK1.out; omega⟩, by repeat (first | exact Drawn0.refl _ | apply Drawn0.step)⟩
     ·rw [if_neg c4] at H
      exact absurd H (by simp)
    ·rw [if_neg c3] at H
     exact absurd H (by simp)
   ·rw [if_neg c2] at H
    have c2b0 : decide (x4_1 < 7) = false := decide_eq_false c2
    clear c2
    obtain rfl := Option.some.inj H
    go_wp2
    go_ret
    exact ⟨by first | rfl | (simp; done) | (simp [*]; done), by repeat (first | exact Drawn0.refl _ | apply Drawn0.step)⟩

/-! ### spec_l2Seven: function 105 -/
def spec_l2Seven.l0 : Nat → ByteArray → Int → Option (Bool)
 | 0, _, _ => none
 | k + 1, x0, x3 => if x3 < 7 then (if x3 < 3 then (if 0 ≤ x3 then (if x3 < (x0.size : Int) then (if (bt x0 x3) < 65 then (some false) else (if (bt x0 x3) > 90 then (some false) else (if x3 > 2 then (if (bt x0 x3) < 48 then (some false) else (if (bt x0 x3) > 57 then (some false) else (spec_l2Seven.l0 k x0 (wrap64 (x3 + 1))))) else (spec_l2Seven.l0 k x0 (wrap64 (x3 + 1)))))) else (none)) else (none)) else (if x3 > 2 then (if 0 ≤ x3 then (if x3 < (x0.size : Int) then (if (bt x0 x3) < 48 then (some false) else (if (bt x0 x3) > 57 then (some false) else (spec_l2Seven.l0 k x0 (wrap64 (x3 + 1))))) else (none)) else (none)) else (spec_l2Seven.l0 k x0 (wrap64 (x3 + 1))))) else (some true)
def spec_l2Seven.f (k : Nat) (a0 : ByteArray) : Option (Bool) := if (a0.size : Int) = 7 then (spec_l2Seven.l0 k a0 0) else (some false)
theorem spec_l2Seven.mono_l : ∀ k, (∀ y0 y1, LeO (spec_l2Seven.l0 k y0 y1) (spec_l2Seven.l0 (k + 1) y0 y1))
 | 0 => fun _ _ r h => by simp [spec_l2Seven.l0] at h
 | k + 1 => by
  have ih0 := spec_l2Seven.mono_l k
  ·intro y0 y1
   unfold spec_l2Seven.l0
   repeat' first
   | (with_reducible exact ih0 _ _)
   | (with_reducible exact LeO.refl _)
   | (with_reducible exact LeO.none _)
   | (with_reducible refine LeO.ite ?_ ?_)
   | (with_reducible refine LeO.bind ?_ (fun _ => ?_))
   | exact ih0 _ _
   | exact LeO.none _
   | refine LeO.ite ?_ ?_
   | refine LeO.bind ?_ (fun _ => ?_)
theorem spec_l2Seven.mono : ∀ a0 k, LeO (spec_l2Seven.f k a0) (spec_l2Seven.f (k + 1) a0) := by
 intro a0 k
 have ih0 := spec_l2Seven.mono_l k
 unfold spec_l2Seven.f
 repeat' first
   | (with_reducible exact ih0 _ _)
   | (with_reducible exact LeO.refl _)
   | (with_reducible exact LeO.none _)
   | (with_reducible refine LeO.ite ?_ ?_)
   | (with_reducible refine LeO.bind ?_ (fun _ => ?_))
   | exact ih0 _ _
   | exact LeO.none _
   | refine LeO.ite ?_ ?_
   | refine LeO.bind ?_ (fun _ => ?_)
set_option maxHeartbeats 8000000 in
set_option maxRecDepth 100000 in
theorem spec_l2Seven.calls (k : Nat) (a0 : ByteArray) (r : Bool) (w : World) (h : spec_l2Seven.f k a0 = some r) :
  Calls Try.prog 105 #[.string a0] w fun e w' => e = .returned (.bool r) ∧ Drawn0 w w' := by
 have H : (if (a0.size : Int) = 7 then (spec_l2Seven.l0 k a0 0) else (some false)) = some r := h
 clear h
 by_cases c2 : (a0.size : Int) = 7
 ·rw [if_pos c2] at H
  have c2b0 : ((a0.size : Int) == 7) = true := beq_iff_eq.mpr c2
  have c2b1 : ((a0.size : Int) != 7) = false := bne_eq_false_iff_eq.mpr c2
  clear c2
  have H' := Aside0.mk H
  clear H
  go_enter Try.func105, Try.ntmps105
  go_wp2
  go_loopg [3] k (fun kq v3 w' => ∃ (x3_1 : Int), v3 = .int .i64 x3_1 ∧ Aside0 (spec_l2Seven.l0 kq a0 x3_1 = some r) ∧ Aside0 (kq ≤ k) ∧ Drawn0 w w')
  case atStart => exact ⟨(0), (by first | rfl | (simp; done) | (simp [*]; done)), H', ⟨Nat.le_refl _⟩, by repeat (first | exact Drawn0.refl _ | apply Drawn0.step)⟩
  case round =>
   clear H'
   try clear c1
   try clear c2
   try clear c2b0
   try clear c2b1
   try clear p2
   obtain ⟨x3_1, rfl, HA, HK1, ⟨m1, rfl⟩⟩ := hrel
   cases gk with
   | zero => exact absurd HA.out (by simp [spec_l2Seven.l0])
   | succ k1 =>
    have H := HA.out
    clear HA
    simp only [spec_l2Seven.l0] at H
    by_cases c3 : x3_1 < 7
    ·rw [if_pos c3] at H
     have c3b0 : decide (x3_1 < 7) = true := decide_eq_true c3
     clear c3
     by_cases c4 : x3_1 < 3
     ·rw [if_pos c4] at H
      have c4b0 : decide (x3_1 < 3) = true := decide_eq_true c4
      clear c4
      by_cases c5 : 0 ≤ x3_1
      ·rw [if_pos c5] at H
       have c5b0 : decide (0 ≤ x3_1) = true := decide_eq_true c5
       clear c5
       by_cases c6 : x3_1 < (a0.size : Int)
       ·rw [if_pos c6] at H
        have c6b0 : decide (x3_1 < (a0.size : Int)) = true := decide_eq_true c6
        clear c6
        by_cases c8 : (bt a0 x3_1) < 65
        ·rw [if_pos c8] at H
         have c8b0 : decide ((bt a0 x3_1) < 65) = true := decide_eq_true c8
         clear c8
         obtain rfl := Option.some.inj H
         have p7 : 0 ≤ (x3_1 : Int) := oda
         have q7 : x3_1 < (a0.size : Int) := oda
         have hx7 := bt_at a0 x3_1
         replace p7 := eq_true p7
         replace q7 := eq_true q7
         go_wp2
         go_ret
         exact ⟨by first | rfl | (simp; done) | (simp [*]; done), by repeat (first | exact Drawn0.refl _ | apply Drawn0.step)⟩
        ·rw [if_neg c8] at H
         have c8b0 : decide ((bt a0 x3_1) < 65) = false := decide_eq_false c8
         clear c8
         by_cases c10 : (bt a0 x3_1) > 90
         ·rw [if_pos c10] at H
          have c10b0 : decide (90 < (bt a0 x3_1)) = true := decide_eq_true c10
          clear c10
          obtain rfl := Option.some.inj H
          have p7 : 0 ≤ (x3_1 : Int) := oda
          have q7 : x3_1 < (a0.size : Int) := oda
          have hx7 := bt_at a0 x3_1
          replace p7 := eq_true p7
          replace q7 := eq_true q7
          have p9 : 0 ≤ (x3_1 : Int) := oda
          have q9 : x3_1 < (a0.size : Int) := oda
          have hx9 := bt_at a0 x3_1
          replace p9 := eq_true p9
          replace q9 := eq_true q9
          go_wp2
          go_ret
          exact ⟨by first | rfl | (simp; done) | (simp [*]; done), by repeat (first | exact Drawn0.refl _ | apply Drawn0.step)⟩
         ·rw [if_neg c10] at H
          have c10b0 : decide (90 < (bt a0 x3_1)) = false := decide_eq_false c10
          clear c10
          by_cases c11 : x3_1 > 2
          ·rw [if_pos c11] at H
           have c11b0 : decide (2 < x3_1) = true := decide_eq_true c11
           clear c11
           by_cases c13 : (bt a0 x3_1) < 48
           ·rw [if_pos c13] at H
            have c13b0 : decide ((bt a0 x3_1) < 48) = true := decide_eq_true c13
            clear c13
            obtain rfl := Option.some.inj H
            have p7 : 0 ≤ (x3_1 : Int) := oda
            have q7 : x3_1 < (a0.size : Int) := oda
            have hx7 := bt_at a0 x3_1
            replace p7 := eq_true p7
            replace q7 := eq_true q7
            have p9 : 0 ≤ (x3_1 : Int) := oda
            have q9 : x3_1 < (a0.size : Int) := oda
            have hx9 := bt_at a0 x3_1
            replace p9 := eq_true p9
            replace q9 := eq_true q9
            have p12 : 0 ≤ (x3_1 : Int) := oda
            have q12 : x3_1 < (a0.size : Int) := oda
            have hx12 := bt_at a0 x3_1
            replace p12 := eq_true p12
            replace q12 := eq_true q12
            go_wp2
            go_ret
            exact ⟨by first | rfl | (simp; done) | (simp [*]; done), by repeat (first | exact Drawn0.refl _ | apply Drawn0.step)⟩
           ·rw [if_neg c13] at H
            have c13b0 : decide ((bt a0 x3_1) < 48) = false := decide_eq_false c13
            clear c13
            by_cases c15 : (bt a0 x3_1) > 57
            ·rw [if_pos c15] at H
             have c15b0 : decide (57 < (bt a0 x3_1)) = true := decide_eq_true c15
             clear c15
             obtain rfl := Option.some.inj H
             have p7 : 0 ≤ (x3_1 : Int) := oda
             have q7 : x3_1 < (a0.size : Int) := oda
             have hx7 := bt_at a0 x3_1
             replace p7 := eq_true p7
             replace q7 := eq_true q7
             have p9 : 0 ≤ (x3_1 : Int) := oda
             have q9 : x3_1 < (a0.size : Int) := oda
             have hx9 := bt_at a0 x3_1
             replace p9 := eq_true p9
             replace q9 := eq_true q9
             have p12 : 0 ≤ (x3_1 : Int) := oda
             have q12 : x3_1 < (a0.size : Int) := oda
             have hx12 := bt_at a0 x3_1
             replace p12 := eq_true p12
             replace q12 := eq_true q12
             have p14 : 0 ≤ (x3_1 : Int) := oda
             have q14 : x3_1 < (a0.size : Int) := oda
             have hx14 := bt_at a0 x3_1
             replace p14 := eq_true p14
             replace q14 := eq_true q14
             go_wp2
             go_ret
             exact ⟨by first | rfl | (simp; done) | (simp [*]; done), by repeat (first | exact Drawn0.refl _ | apply Drawn0.step)⟩
            ·rw [if_neg c15] at H
             have c15b0 : decide (57 < (bt a0 x3_1)) = false := decide_eq_false c15
             clear c15
             have H' := Aside0.mk H
             clear H
             have p7 : 0 ≤ (x3_1 : Int) := oda
             have q7 : x3_1 < (a0.size : Int) := oda
             have hx7 := bt_at a0 x3_1
             replace p7 := eq_true p7
             replace q7 := eq_true q7
             have p9 : 0 ≤ (x3_1 : Int) := oda
             have q9 : x3_1 < (a0.size : Int) := oda
             have hx9 := bt_at a0 x3_1
             replace p9 := eq_true p9
             replace q9 := eq_true q9
             have p12 : 0 ≤ (x3_1 : Int) := oda
             have q12 : x3_1 < (a0.size : Int) := oda
             have hx12 := bt_at a0 x3_1
             replace p12 := eq_true p12
             replace q12 := eq_true q12
             have p14 : 0 ≤ (x3_1 : Int) := oda
             have q14 : x3_1 < (a0.size : Int) := oda
             have hx14 := bt_at a0 x3_1
             replace p14 := eq_true p14
             replace q14 := eq_true q14
             go_wp2
             go_roundg k1
             case measure => have := HK1.out; omega
             case rel => exact ⟨(wrap64 (x3_1 + 1)), (by first | rfl | (simp; done) | (simp [*]; done)), H', ⟨by have := HK1.out; omega⟩, by repeat (first | exact Drawn0.refl _ | apply Drawn0.step)⟩
          ·rw [if_neg c11] at H
           have c11b0 : decide (2 < x3_1) = false := decide_eq_false c11
           clear c11
           have H' := Aside0.mk H
           clear H
           have p7 : 0 ≤ (x3_1 : Int) := oda
           have q7 : x3_1 < (a0.size : Int) := oda
           have hx7 := bt_at a0 x3_1
           replace p7 := eq_true p7
           replace q7 := eq_true q7
           have p9 : 0 ≤ (x3_1 : Int) := oda
           have q9 : x3_1 < (a0.size : Int) := oda
           have hx9 := bt_at a0 x3_1
           replace p9 := eq_true p9
           replace q9 := eq_true q9
           go_wp2
           go_roundg k1
           case measure => have := HK1.out; omega
           case rel => exact ⟨(wrap64 (x3_1 + 1)), (by first | rfl | (simp; done) | (simp [*]; done)), H', ⟨by have := HK1.out; omega⟩, by repeat (first | exact Drawn0.refl _ | apply Drawn0.step)⟩
       ·rw [if_neg c6] at H
        exact absurd H (by simp)
      ·rw [if_neg c5] at H
       exact absurd H (by simp)
     ·rw [if_neg c4] at H
      have c4b0 : decide (x3_1 < 3) = false := decide_eq_false c4
      clear c4
      by_cases c16 : x3_1 > 2
      ·rw [if_pos c16] at H
       have c16b0 : decide (2 < x3_1) = true := decide_eq_true c16
       clear c16
       by_cases c17 : 0 ≤ x3_1
       ·rw [if_pos c17] at H
        have c17b0 : decide (0 ≤ x3_1) = true := decide_eq_true c17
        clear c17
        by_cases c18 : x3_1 < (a0.size : Int)
        ·rw [if_pos c18] at H
         have c18b0 : decide (x3_1 < (a0.size : Int)) = true := decide_eq_true c18
         clear c18
         by_cases c20 : (bt a0 x3_1) < 48
         ·rw [if_pos c20] at H
          have c20b0 : decide ((bt a0 x3_1) < 48) = true := decide_eq_true c20
          clear c20
          obtain rfl := Option.some.inj H
          have p19 : 0 ≤ (x3_1 : Int) := oda
          have q19 : x3_1 < (a0.size : Int) := oda
          have hx19 := bt_at a0 x3_1
          replace p19 := eq_true p19
          replace q19 := eq_true q19
          go_wp2
          go_ret
          exact ⟨by first | rfl | (simp; done) | (simp [*]; done), by repeat (first | exact Drawn0.refl _ | apply Drawn0.step)⟩
         ·rw [if_neg c20] at H
          have c20b0 : decide ((bt a0 x3_1) < 48) = false := decide_eq_false c20
          clear c20
          by_cases c22 : (bt a0 x3_1) > 57
          ·rw [if_pos c22] at H
           have c22b0 : decide (57 < (bt a0 x3_1)) = true := decide_eq_true c22
           clear c22
           obtain rfl := Option.some.inj H
           have p19 : 0 ≤ (x3_1 : Int) := oda
           have q19 : x3_1 < (a0.size : Int) := oda
           have hx19 := bt_at a0 x3_1
           replace p19 := eq_true p19
           replace q19 := eq_true q19
           have p21 : 0 ≤ (x3_1 : Int) := oda
           have q21 : x3_1 < (a0.size : Int) := oda
           have hx21 := bt_at a0 x3_1
           replace p21 := eq_true p21
           replace q21 := eq_true q21
           go_wp2
           go_ret
           exact ⟨by first | rfl | (simp; done) | (simp [*]; done), by repeat (first | exact Drawn0.refl _ | apply Drawn0.step)⟩
          ·rw [if_neg c22] at H
           have c22b0 : decide (57 < (bt a0 x3_1)) = false := decide_eq_false c22
           clear c22
           have H' := Aside0.mk H
           clear H
           have p19 : 0 ≤ (x3_1 : Int) := oda
           have q19 : x3_1 < (a0.size : Int) := oda
           have hx19 := bt_at a0 x3_1
           replace p19 := eq_true p19
           replace q19 := eq_true q19
           have p21 : 0 ≤ (x3_1 : Int) := oda
           have q21 : x3_1 < (a0.size : Int) := oda
           have hx21 := bt_at a0 x3_1
           replace p21 := eq_true p21
           replace q21 := eq_true q21
           go_wp2
           go_roundg k1
           case measure => have := HK1.out; omega
           case rel => exact ⟨(wrap64 (x3_1 + 1)), (by first | rfl | (simp; done) | (simp [*]; done)), H', ⟨by have := HK1.out; omega⟩, by repeat (first | exact Drawn0.refl _ | apply Drawn0.step)⟩
        ·rw [if_neg c18] at H
         exact absurd H (by simp)
       ·rw [if_neg c17] at H
        exact absurd H (by simp)
      ·rw [if_neg c16] at H
       have c16b0 : decide (2 < x3_1) = false := decide_eq_false c16
       clear c16
       have H' := Aside0.mk H
       clear H
       go_wp2
       go_roundg k1
       case measure => have := HK1.out; omega
       case rel => exact ⟨(wrap64 (x3_1 + 1)), (by first | rfl | (simp; done) | (simp [*]; done)), H', ⟨by have := HK1.out; omega⟩, by repeat (first | exact Drawn0.refl _ | apply Drawn0.step)⟩
    ·rw [if_neg c3] at H
     have c3b0 : decide (x3_1 < 7) = false := decide_eq_false c3
     clear c3
     obtain rfl := Option.some.inj H
     go_wp2
     go_ret
     exact ⟨by first | rfl | (simp; done) | (simp [*]; done), by repeat (first | exact Drawn0.refl _ | apply Drawn0.step)⟩
 ·rw [if_neg c2] at H
  have c2b0 : ((a0.size : Int) == 7) = false := beq_eq_false_iff_ne.mpr c2
  have c2b1 : ((a0.size : Int) != 7) = true := bne_iff_ne.mpr c2
  obtain rfl := Option.some.inj H
  go_enter Try.func105, Try.ntmps105
  go_wp2
  go_ret
  exact ⟨by first | rfl | (simp; done) | (simp [*]; done), by repeat (first | exact Drawn0.refl _ | apply Drawn0.step)⟩

end Go.Proofs.Ytmpmcckjpkijnaa.P
