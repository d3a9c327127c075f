-- Written by a program of this session over the translation (a variant of the printer, see wip/gen); Lean checks it.
import Derived.Test.YtemildnlfjijmaaVC
import Derived.Test.YtemildnlfjijmaaPx0
import Derived.Test.YtemildnlfjijmaaPx1
namespace Go.Proofs.Ytemildnlfjijmaa.P
open Go.RowKit Go.Proofs.YtemildnlfjijmaaW.PrintWords Go.Proofs.YtemildnlfjijmaaW.PrintLast Go.Proofs.YtemildnlfjijmaaW.PrintMore
attribute [local go_sem] Go.Proofs.Ytemildnlfjijmaa.V.isSome_setCell max2_int min2_int max_two min_two max_three min_three max_four min_four
set_option linter.unusedVariables false
set_option linter.unusedSimpArgs false
/-! ### spec_l1In: function 25 -/
def spec_l1In.f (a0 : Int) (a1 : Int) (a2 : Int) : Option (Bool) := if a0 ≥ a1 then (some (decide (a0 ≤ a2))) else (some false)
set_option maxHeartbeats 8000000 in
set_option maxRecDepth 100000 in
theorem spec_l1In.calls (a0 : Int) (a1 : Int) (a2 : Int) (r : Bool) (w : World) (h : spec_l1In.f a0 a1 a2 = some r) :
  Calls Try.prog 25 #[.int .i64 a0, .int .i64 a1, .int .i64 a2] w fun e w' => e = .returned (.bool r) ∧ Drawn0 w w' := by
 have H : (if a0 ≥ a1 then (some (decide (a0 ≤ a2))) else (some false)) = some r := h
 clear h
 by_cases c4 : a0 ≥ a1
 ·rw [if_pos c4] at H
  have c4b0 : decide (a1 ≤ a0) = true := decide_eq_true c4
  clear c4
  obtain rfl := Option.some.inj H
  go_enter Try.func25, Try.ntmps25
  go_wp2
  go_ret
  exact ⟨by rfl , by repeat (exact Drawn0.refl _ )⟩
 rw [if_neg c4] at H
 have c4b0 : decide (a1 ≤ a0) = false := decide_eq_false c4
 clear c4
 obtain rfl := Option.some.inj H
 go_enter Try.func25, Try.ntmps25
 go_wp2
 go_ret
 exact ⟨by rfl , by repeat (exact Drawn0.refl _ )⟩
/-! ### spec_l1Has: function 54 -/
def spec_l1Has.l0 : Nat → List Int → Int → Int → Option (Bool)
 | 0, _, _, _ => none
 | k + 1, x0, x1, x5 => if x5 < (x0.length : Int) then (if 0 ≤ x5 then (if (rd x0 x5) = x1 then (some true) else (spec_l1Has.l0 k x0 x1 (wrap64 (x5 + 1)))) else (none)) else (some false)
def spec_l1Has.f (k : Nat) (l0 : List Int) (a1 : Int) : Option (Bool) := spec_l1Has.l0 k l0 a1 0
set_option maxHeartbeats 8000000 in
set_option maxRecDepth 100000 in
theorem spec_l1Has.calls (k : Nat) (A0 : Option Addr) (c0 : Nat) (l0 : List Int) (a1 : Int) (r : Bool) (w : World) (hr0 : Kd.C (Kd.int .i64) w A0 l0.length l0) (hc0 : l0.length ≤ c0) (h : spec_l1Has.f k l0 a1 = some r) :
  Calls Try.prog 54 #[.slice A0 l0.length c0, .int .i64 a1] w fun e w' => e = .returned (.bool r) ∧ Drawn0 w w' := by
 have HR0 := Aside0.mk hr0
 have HC0 := Aside0.mk hc0
 clear hr0 hc0
 have H : (spec_l1Has.l0 k l0 a1 0) = some r := h
 clear h
 have H' := Aside0.mk H
 clear H
 go_enter Try.func54, Try.ntmps54
 go_wp2
 go_loopg [5] k (fun kq v5 w' => ∃ (x5_1 : Int), v5 = .int .i64 x5_1 ∧ Aside0 (spec_l1Has.l0 kq l0 a1 x5_1 = some r) ∧ Aside0 (kq ≤ k) ∧ Drawn0 w w')
 case atStart => exact ⟨(0), (by rfl ), H', ⟨Nat.le_refl _⟩, by repeat (exact Drawn0.refl _ )⟩
 clear H'
 obtain ⟨x5_1, rfl, HA, HK1, ⟨m1, rfl⟩⟩ := hrel
 cases gk with
 | zero => exact absurd HA.out (by simp [spec_l1Has.l0])
 | succ k1 =>
  have H := HA.out
  clear HA
  simp only [spec_l1Has.l0] at H
  by_cases c3 : x5_1 < (l0.length : Int)
  rotate_left
  ·rw [if_neg c3] at H
   have c3b0 : decide (x5_1 < (l0.length : Int)) = false := decide_eq_false c3
   clear c3
   obtain rfl := Option.some.inj H
   go_wp2
   go_ret
   exact ⟨by rfl , by repeat (first | exact Drawn0.refl _ | apply Drawn0.step)⟩
  rw [if_pos c3] at H
  have c3b0 : decide (x5_1 < (l0.length : Int)) = true := decide_eq_true c3
  clear c3
  by_cases c4 : 0 ≤ x5_1
  rotate_left
  ·rw [if_neg c4] at H
   exact absurd H (by simp)
  rw [if_pos c4] at H
  have c4b0 : decide (0 ≤ x5_1) = true := decide_eq_true c4
  clear c4
  by_cases c5 : (rd l0 x5_1) = a1
  ·rw [if_pos c5] at H
   have c5b0 : ((rd l0 x5_1) == a1) = true := beq_iff_eq.mpr c5
   have c5b1 : ((rd l0 x5_1) != a1) = false := bne_eq_false_iff_eq.mpr c5
   clear c5
   obtain rfl := Option.some.inj H
   have p472 : 0 ≤ (x5_1 : Int) := oda
   have q472 : x5_1 < (l0.length : Int) := oda
   obtain ⟨ad472, e472, hx472_0⟩ := Kd.at_int HR0.out x5_1 p472 q472
   cases e472
   replace p472 := eq_true p472
   replace q472 := eq_true q472
   go_wp2
   go_ret
   exact ⟨by rfl , by repeat (first | exact Drawn0.refl _ | apply Drawn0.step)⟩
  rw [if_neg c5] at H
  have c5b0 : ((rd l0 x5_1) == a1) = false := beq_eq_false_iff_ne.mpr c5
  have c5b1 : ((rd l0 x5_1) != a1) = true := bne_iff_ne.mpr c5
  have H' := Aside0.mk H
  clear H
  have p472 : 0 ≤ (x5_1 : Int) := oda
  have q472 : x5_1 < (l0.length : Int) := oda
  obtain ⟨ad472, e472, hx472_0⟩ := Kd.at_int HR0.out x5_1 p472 q472
  cases e472
  replace p472 := eq_true p472
  replace q472 := eq_true q472
  go_wp2
  go_roundg k1
  case measure => have := HK1.out; omega
  case rel => exact ⟨(wrap64 (x5_1 + 1)), (by rfl ), H', ⟨by have := HK1.out; omega⟩, by repeat (first | exact Drawn0.refl _ | apply Drawn0.step)⟩
/-! ### spec_l5Good: function 41 -/
mutual
def spec_l5Good.l0 : Nat → List Int → Int → List (List Int) → Option (Bool)
 | 0, _, _, _ => none
 | k + 1, x3, x4, x474000 => if x4 < (x474000.length : Int) then (if 0 ≤ x4 then (if ((rd_L4 x474000 x4).length : Int) > 4 then (some false) else (spec_l5Good.l1 k x3 x4 0 x474000)) else (none)) else (some true)
def spec_l5Good.l1 : Nat → List Int → Int → Int → List (List Int) → Option (Bool)
 | 0, _, _, _, _ => none
 | k + 1, x3, x4, x5, x474000 => if 0 ≤ x4 then (if x4 < (x474000.length : Int) then (if x5 < ((rd_L4 x474000 x4).length : Int) then (if 0 ≤ x5 then ((spec_l1In.f (rd (rd_L4 x474000 x4) x5) 1 99).bind fun t482 => (if t482 = true then ((spec_l1Has.f k x3 (rd (rd_L4 x474000 x4) x5)).bind fun t483 => (if t483 = true then (some false) else (if x3.length < 17592186044416 then (spec_l5Good.l1 k (x3 ++ [rd (rd_L4 x474000 x4) x5]) x4 (wrap64 (x5 + 1)) x474000) else (none)))) else (some false))) else (none)) else (spec_l5Good.l0 k x3 (wrap64 (x4 + 1)) x474000)) else (none)) else (none)
end
def spec_l5Good.f (k : Nat) (l0_0 : List (List Int)) : Option (Bool) := (spec_l1In.f (l0_0.length : Int) 1 6).bind fun t474 => (if t474 = true then (spec_l5Good.l0 k (([] : List Int)) 0 l0_0) else (some false))
set_option maxHeartbeats 8000000 in
set_option maxRecDepth 100000 in
theorem spec_l5Good.calls (k : Nat) (A0_0 : Option Addr) (c0_0 : Nat) (l0_0 : List (List Int)) (r : Bool) (w : World) (hr0_0 : Kd.C (Kd.slice 3 (Kd.int .i64)) w A0_0 l0_0.length l0_0) (hc0_0 : l0_0.length ≤ c0_0) (h : spec_l5Good.f k l0_0 = some r) :
  Calls Try.prog 41 #[.agg #[.slice A0_0 l0_0.length c0_0]] w fun e w' => e = .returned (.bool r) ∧ Below w.heap.size w w' := by
 have hu26 := Try.underlying26
 have HR0_0 := Aside0.mk hr0_0
 have HC0_0 := Aside0.mk hc0_0
 clear hr0_0 hc0_0
 have HB := Aside0.mk (Below.refl w.heap.size w)
 have H : ((spec_l1In.f (l0_0.length : Int) 1 6).bind fun t474 => (if t474 = true then (spec_l5Good.l0 k (([] : List Int)) 0 l0_0) else (some false))) = some r := h
 clear h
 obtain ⟨t474, A2, H⟩ := bnd H
 try dsimp only at H
 by_cases c3 : t474 = true
 rotate_left
 ·replace c3 := Bool.eq_false_iff.mpr c3
  subst c3
  replace H : (some false) = some r := by rw [if_neg (show ¬ (false = true) by decide)] at H; exact H
  obtain rfl := Option.some.inj H
  go_enter Try.func41, Try.ntmps41
  go_wp2_with (first | ((with_reducible refine gate_dst (N := 1) rfl ?_); refine box_event ?hg (N := 1) ?hd (cs := #[.slice A0_0 l0_0.length c0_0]) (t := 26) ?hr ?_; (case hd | hg => rfl); (case hr => go_simp); intro gb473 hg w30 hbox hb; have BK473 := Aside0.mk (hbox); have GW473 := gsb (w := w) hg (bel HB); have GE473 := gsb (w := w) hg (bel HB); replace HB := Aside0.mk (below_step (bel HB) hb); clear hb hbox hg; obtain ⟨_, _⟩ := bf1 BK473) | ((with_reducible refine gate_callee (f := 25) rfl ?_); refine goesL_ (some 10) rfl rfl Try.func25 (by kernel_rfl) rfl #[.int .i64 (l0_0.length : Int), .int .i64 1, .int .i64 6] rfl gmp ?_; (with_reducible refine (spec_l1In.calls (l0_0.length : Int) 1 6 false _ A2.out).mono ?_); rintro e w' ⟨rfl, ⟨nd, rfl⟩⟩; refine ⟨_, rfl, ?_⟩))
  go_ret
  exact ⟨by rfl , bel1 HB GE473⟩
 subst c3
 replace H : (spec_l5Good.l0 k (([] : List Int)) 0 l0_0) = some r := by rw [if_pos rfl] at H; exact H
 obtain ⟨y475, hy475⟩ : ∃ y_ : List Int, y_ = (([] : List Int)) := ⟨_, rfl⟩
 replace H : (spec_l5Good.l0 k y475 0 l0_0) = some r := by (rw [hy475]; with_reducible exact H) 
 have Ny475 := Aside0.mk hy475
 clear hy475
 have H' := Aside0.mk H
 clear H
 go_enter Try.func41, Try.ntmps41
 go_wp2_with (first | ((with_reducible refine gate_dst (N := 1) rfl ?_); refine box_event ?hg (N := 1) ?hd (cs := #[.slice A0_0 l0_0.length c0_0]) (t := 26) ?hr ?_; (case hd | hg => rfl); (case hr => go_simp); intro gb473 hg w4 hbox hb; have BK473 := Aside0.mk (hbox); have GW473 := gsb (w := w) hg (bel HB); have GE473 := gsb (w := w) hg (bel HB); replace HB := Aside0.mk (below_step (bel HB) hb); clear hb hbox hg; have hcz5_0 := bc BK473 0; have hfz5_0 := blk_frozen BK473.out 0) | ((with_reducible refine gate_callee (f := 25) rfl ?_); refine goesL_ (some 10) rfl rfl Try.func25 (by kernel_rfl) rfl #[.int .i64 (l0_0.length : Int), .int .i64 1, .int .i64 6] rfl gmp ?_; (with_reducible refine (spec_l1In.calls (l0_0.length : Int) 1 6 true _ A2.out).mono ?_); rintro e w' ⟨rfl, ⟨nd, rfl⟩⟩; refine ⟨_, rfl, ?_⟩) | ((with_reducible refine gate_dst (N := 12) rfl ?_); refine Kd.R_lit (Kd.int .i64) _ 3 ?hg (N := 12) ?hd (xs := ([] : List Int)) (inner := []) (ok := fun _ => True) (okp := fun _ => True) ?hr ?hp (fun _ hk => hk) trivial (Below.refl _ _) (Nat.le_refl _) (by simp) ?_; (case hd | hg => rfl); (case hr => go_simp); (case hp => exact (Reps.none _ _)); intro v476 w6 ho7 hb hg_ hnew_; clear hg_ hnew_; (rw [← Ny475.out] at ho7 ); have HO477 := Aside0.mk (Kd.R_lower ho7 (below_size (bel1 HB GE473))); replace BK473 := bkb BK473 hb; replace HB := Aside0.mk (below_step (bel1 HB GE473) hb); clear hb ho7))
 go_loopg [3, 4] k (fun kq v3 v4 w' => ∃ (x3_1 : List Int) (x4_1 : Int), v4 = .int .i64 x4_1 ∧ Aside0 (spec_l5Good.l0 kq x3_1 x4_1 l0_0 = some r) ∧ Aside0 (kq ≤ k) ∧ Aside0 (Kd.R (Kd.int .i64) 3 w' w.heap.size (fun _ => True) v3 x3_1) ∧ Aside0 (w'.heap[gb473]? = some (.cells #[(.slice A0_0 l0_0.length c0_0)] 26 (0, 0))) ∧ Aside0 (Below w.heap.size w w'))
 case atStart => exact ⟨(y475), (0), (by rfl ), H', ⟨Nat.le_refl _⟩, ⟨rdl HO477⟩, ⟨bkl BK473⟩, ⟨bel1 HB GE473⟩⟩
 clear H'
 try clear hcz5_0
 try clear hfz5_0
 obtain ⟨x3_1, x4_1, rfl, HA, HK1, HO_3, BK473, HB⟩ := hrel
 cases gk with
 | zero => exact absurd HA.out (by simp [spec_l5Good.l0])
 | succ k1 =>
  have H := HA.out
  clear HA
  simp only [spec_l5Good.l0] at H
  by_cases c8 : x4_1 < (l0_0.length : Int)
  rotate_left
  ·rw [if_neg c8] at H
   have c8b0 : decide (x4_1 < (l0_0.length : Int)) = false := decide_eq_false c8
   clear c8
   obtain rfl := Option.some.inj H
   have hcz29_0 := bc BK473 0
   have hfz29_0 := blk_frozen BK473.out 0
   go_wp2
   go_ret
   exact ⟨by rfl , bel1 HB GE473⟩
  rw [if_pos c8] at H
  have c8b0 : decide (x4_1 < (l0_0.length : Int)) = true := decide_eq_true c8
  clear c8
  by_cases c9 : 0 ≤ x4_1
  rotate_left
  ·rw [if_neg c9] at H
   exact absurd H (by simp)
  rw [if_pos c9] at H
  have c9b0 : decide (0 ≤ x4_1) = true := decide_eq_true c9
  clear c9
  by_cases c10 : ((rd_L4 l0_0 x4_1).length : Int) > 4
  ·rw [if_pos c10] at H
   have c10b0 : decide (4 < ((rd_L4 l0_0 x4_1).length : Int)) = true := decide_eq_true c10
   have c10b1 : decide (4 < (rd_L4 l0_0 x4_1).length) = true := decide_eq_true (by omega)
   clear c10
   obtain rfl := Option.some.inj H
   have hcz11_0 := bc BK473 0
   have hfz11_0 := blk_frozen BK473.out 0
   have p478 : 0 ≤ (x4_1 : Int) := oda
   have q478 : x4_1 < (l0_0.length : Int) := oda
   obtain ⟨ad478, A478_0, c478_0, e478, hx478_0, hl478_0, hi478_0⟩ := at_L4 HR0_0.out x4_1 p478 q478
   cases e478
   replace hx478_0 := cel HB hx478_0
   have HR478_0 := Aside0.mk hi478_0
   have HC478_0 := Aside0.mk hl478_0
   clear hi478_0 hl478_0
   replace p478 := eq_true p478
   replace q478 := eq_true q478
   go_wp2
   go_ret
   exact ⟨by rfl , bel1 HB GE473⟩
  rw [if_neg c10] at H
  have c10b0 : decide (4 < ((rd_L4 l0_0 x4_1).length : Int)) = false := decide_eq_false c10
  have c10b1 : decide (4 < (rd_L4 l0_0 x4_1).length) = false := decide_eq_false (by omega)
  clear c10
  have H' := Aside0.mk H
  clear H
  have hcz12_0 := bc BK473 0
  have hfz12_0 := blk_frozen BK473.out 0
  have p478 : 0 ≤ (x4_1 : Int) := oda
  have q478 : x4_1 < (l0_0.length : Int) := oda
  obtain ⟨ad478, A478_0, c478_0, e478, hx478_0, hl478_0, hi478_0⟩ := at_L4 HR0_0.out x4_1 p478 q478
  cases e478
  replace hx478_0 := cel HB hx478_0
  have HR478_0 := Aside0.mk hi478_0
  have HC478_0 := Aside0.mk hl478_0
  clear hi478_0 hl478_0
  replace p478 := eq_true p478
  replace q478 := eq_true q478
  go_wp2
  go_loopg [3, 5] k1 (fun kq v3 v5 w' => ∃ (x3_2 : List Int) (x5_2 : Int), v5 = .int .i64 x5_2 ∧ Aside0 (spec_l5Good.l1 kq x3_2 x4_1 x5_2 l0_0 = some r) ∧ Aside0 (kq ≤ k1) ∧ Aside0 (Kd.R (Kd.int .i64) 3 w' w.heap.size (fun _ => True) v3 x3_2) ∧ Aside0 (w'.heap[gb473]? = some (.cells #[(.slice (some ad478) l0_0.length c0_0)] 26 (0, 0))) ∧ Aside0 (Below w.heap.size w w'))
  case atStart => exact ⟨(x3_1), (0), (by rfl ), H', ⟨Nat.le_refl _⟩, ⟨rdl HO_3⟩, ⟨bkl BK473⟩, ⟨bel1 HB GE473⟩⟩
  clear H'
  try clear c8b0
  try clear c9b0
  try clear c10b0
  try clear c10b1
  try clear hcz12_0
  try clear hfz12_0
  try clear hx478_0
  try clear p478
  try clear q478
  obtain ⟨x3_2, x5_2, rfl, HA, HK2, HO_3, BK473, HB⟩ := hrel
  cases gk with
  | zero => exact absurd HA.out (by simp [spec_l5Good.l1])
  | succ k2 =>
   have H := HA.out
   clear HA
   simp only [spec_l5Good.l1] at H
   by_cases c13 : 0 ≤ x4_1
   rotate_left
   ·rw [if_neg c13] at H
    exact absurd H (by simp)
   rw [if_pos c13] at H
   have c13b0 : decide (0 ≤ x4_1) = true := decide_eq_true c13
   clear c13
   by_cases c14 : x4_1 < (l0_0.length : Int)
   rotate_left
   ·rw [if_neg c14] at H
    exact absurd H (by simp)
   rw [if_pos c14] at H
   have c14b0 : decide (x4_1 < (l0_0.length : Int)) = true := decide_eq_true c14
   clear c14
   by_cases c15 : x5_2 < ((rd_L4 l0_0 x4_1).length : Int)
   rotate_left
   ·rw [if_neg c15] at H
    have c15b0 : decide (x5_2 < ((rd_L4 l0_0 x4_1).length : Int)) = false := decide_eq_false c15
    clear c15
    have H' := Aside0.mk H
    clear H
    have hcz28_0 := bc BK473 0
    have hfz28_0 := blk_frozen BK473.out 0
    have p479 : 0 ≤ (x4_1 : Int) := oda
    have q479 : x4_1 < (l0_0.length : Int) := oda
    obtain ⟨ad479, A479_0, c479_0, e479, hx479_0, hl479_0, hi479_0⟩ := at_L4 HR0_0.out x4_1 p479 q479
    obtain rfl : ad478 = ad479 := (by injection e479)
    replace hx479_0 := cel HB hx479_0
    have HR479_0 := Aside0.mk hi479_0
    have HC479_0 := Aside0.mk hl479_0
    clear hi479_0 hl479_0
    replace p479 := eq_true p479
    replace q479 := eq_true q479
    go_wp2
    go_roundg k2
    case measure => have := HK1.out; have := HK2.out; omega
    case rel => exact ⟨(x3_2), (wrap64 (x4_1 + 1)), (by rfl ), H', ⟨by have := HK1.out; have := HK2.out; omega⟩, ⟨rdl HO_3⟩, ⟨bkl BK473⟩, ⟨bel1 HB GE473⟩⟩
   rw [if_pos c15] at H
   have c15b0 : decide (x5_2 < ((rd_L4 l0_0 x4_1).length : Int)) = true := decide_eq_true c15
   clear c15
   by_cases c16 : 0 ≤ x5_2
   rotate_left
   ·rw [if_neg c16] at H
    exact absurd H (by simp)
   rw [if_pos c16] at H
   have c16b0 : decide (0 ≤ x5_2) = true := decide_eq_true c16
   clear c16
   obtain ⟨t482, A17, H⟩ := bnd H
   try dsimp only at H
   by_cases c18 : t482 = true
   rotate_left
   ·replace c18 := Bool.eq_false_iff.mpr c18
    subst c18
    replace H : (some false) = some r := by rw [if_neg (show ¬ (false = true) by decide)] at H; exact H
    obtain rfl := Option.some.inj H
    have hcz27_0 := bc BK473 0
    have hfz27_0 := blk_frozen BK473.out 0
    have p479 : 0 ≤ (x4_1 : Int) := oda
    have q479 : x4_1 < (l0_0.length : Int) := oda
    obtain ⟨ad479, A479_0, c479_0, e479, hx479_0, hl479_0, hi479_0⟩ := at_L4 HR0_0.out x4_1 p479 q479
    obtain rfl : ad478 = ad479 := (by injection e479)
    replace hx479_0 := cel HB hx479_0
    have HR479_0 := Aside0.mk hi479_0
    have HC479_0 := Aside0.mk hl479_0
    clear hi479_0 hl479_0
    replace p479 := eq_true p479
    replace q479 := eq_true q479
    have p480 : 0 ≤ (x4_1 : Int) := oda
    have q480 : x4_1 < (l0_0.length : Int) := oda
    obtain ⟨ad480, A480_0, c480_0, e480, hx480_0, hl480_0, hi480_0⟩ := at_L4 HR0_0.out x4_1 p480 q480
    obtain rfl : ad478 = ad480 := (by injection e480)
    replace hx480_0 := cel HB hx480_0
    have HR480_0 := Aside0.mk hi480_0
    have HC480_0 := Aside0.mk hl480_0
    clear hi480_0 hl480_0
    replace p480 := eq_true p480
    replace q480 := eq_true q480
    have ea_ := Option.some.inj (hx479_0.symm.trans hx480_0)
    injection ea_ with ea_ en_ ec_
    subst ea_
    subst ec_
    clear en_
    have p481 : 0 ≤ (x5_2 : Int) := oda
    have q481 : x5_2 < ((rd_L4 l0_0 x4_1).length : Int) := oda
    obtain ⟨ad481, e481, hx481_0⟩ := Kd.at_int HR480_0.out x5_2 p481 q481
    cases e481
    replace hx481_0 := cel HB hx481_0
    replace p481 := eq_true p481
    replace q481 := eq_true q481
    go_wp2_with (first | ((with_reducible refine gate_callee (f := 25) rfl ?_); refine goesL_ (some 46) rfl rfl Try.func25 (by kernel_rfl) rfl #[.int .i64 (rd (rd_L4 l0_0 x4_1) x5_2), .int .i64 1, .int .i64 99] rfl gmp ?_; (with_reducible refine (spec_l1In.calls (rd (rd_L4 l0_0 x4_1) x5_2) 1 99 false _ A17.out).mono ?_); rintro e w' ⟨rfl, ⟨nd, rfl⟩⟩; refine ⟨_, rfl, ?_⟩))
    go_ret
    exact ⟨by rfl , bel1 HB GE473⟩
   subst c18
   replace H : ((spec_l1Has.f k2 x3_2 (rd (rd_L4 l0_0 x4_1) x5_2)).bind fun t483 => (if t483 = true then (some false) else (if x3_2.length < 17592186044416 then (spec_l5Good.l1 k2 (x3_2 ++ [rd (rd_L4 l0_0 x4_1) x5_2]) x4_1 (wrap64 (x5_2 + 1)) l0_0) else (none)))) = some r := by rw [if_pos rfl] at H; exact H
   obtain ⟨t483, A19, H⟩ := bnd H
   try dsimp only at H
   by_cases c20 : t483 = true
   ·subst c20
    replace H : (some false) = some r := by rw [if_pos rfl] at H; exact H
    obtain rfl := Option.some.inj H
    have hcz21_0 := bc BK473 0
    have hfz21_0 := blk_frozen BK473.out 0
    have p479 : 0 ≤ (x4_1 : Int) := oda
    have q479 : x4_1 < (l0_0.length : Int) := oda
    obtain ⟨ad479, A479_0, c479_0, e479, hx479_0, hl479_0, hi479_0⟩ := at_L4 HR0_0.out x4_1 p479 q479
    obtain rfl : ad478 = ad479 := (by injection e479)
    replace hx479_0 := cel HB hx479_0
    have HR479_0 := Aside0.mk hi479_0
    have HC479_0 := Aside0.mk hl479_0
    clear hi479_0 hl479_0
    replace p479 := eq_true p479
    replace q479 := eq_true q479
    have p480 : 0 ≤ (x4_1 : Int) := oda
    have q480 : x4_1 < (l0_0.length : Int) := oda
    obtain ⟨ad480, A480_0, c480_0, e480, hx480_0, hl480_0, hi480_0⟩ := at_L4 HR0_0.out x4_1 p480 q480
    obtain rfl : ad478 = ad480 := (by injection e480)
    replace hx480_0 := cel HB hx480_0
    have HR480_0 := Aside0.mk hi480_0
    have HC480_0 := Aside0.mk hl480_0
    clear hi480_0 hl480_0
    replace p480 := eq_true p480
    replace q480 := eq_true q480
    have ea_ := Option.some.inj (hx479_0.symm.trans hx480_0)
    injection ea_ with ea_ en_ ec_
    subst ea_
    subst ec_
    clear en_
    have p481 : 0 ≤ (x5_2 : Int) := oda
    have q481 : x5_2 < ((rd_L4 l0_0 x4_1).length : Int) := oda
    obtain ⟨ad481, e481, hx481_0⟩ := Kd.at_int HR480_0.out x5_2 p481 q481
    cases e481
    replace hx481_0 := cel HB hx481_0
    replace p481 := eq_true p481
    replace q481 := eq_true q481
    go_wp2_with (first | ((with_reducible refine gate_callee (f := 25) rfl ?_); refine goesL_ (some 46) rfl rfl Try.func25 (by kernel_rfl) rfl #[.int .i64 (rd (rd_L4 l0_0 x4_1) x5_2), .int .i64 1, .int .i64 99] rfl gmp ?_; (with_reducible refine (spec_l1In.calls (rd (rd_L4 l0_0 x4_1) x5_2) 1 99 true _ A17.out).mono ?_); rintro e w' ⟨rfl, ⟨nd, rfl⟩⟩; refine ⟨_, rfl, ?_⟩; obtain ⟨Ao22, co22, eo22⟩ := Kd.R_slice HO_3.out; subst eo22) | (go_at_call 54; (with_reducible refine (spec_l1Has.calls k2 _ _ x3_2 (rd (rd_L4 l0_0 x4_1) x5_2) true _ ?side1 ?side2 A19.out).mono ?_); (case side1 => repeat (exact (Kd.R_reads' HO_3.out).2.2 )); (case side2 => exact (Kd.R_reads' HO_3.out).2.1); rintro e w' ⟨rfl, ⟨nd, rfl⟩⟩))
    go_ret
    exact ⟨by rfl , bel1 HB GE473⟩
   replace c20 := Bool.eq_false_iff.mpr c20
   subst c20
   replace H : (if x3_2.length < 17592186044416 then (spec_l5Good.l1 k2 (x3_2 ++ [rd (rd_L4 l0_0 x4_1) x5_2]) x4_1 (wrap64 (x5_2 + 1)) l0_0) else (none)) = some r := by rw [if_neg (show ¬ (false = true) by decide)] at H; exact H
   by_cases c23 : x3_2.length < 17592186044416
   rotate_left
   ·rw [if_neg c23] at H
    exact absurd H (by simp)
   rw [if_pos c23] at H
   have LMc23 := Aside0.mk c23
   clear c23
   obtain ⟨y484, hy484⟩ : ∃ y_ : List Int, y_ = (x3_2 ++ [rd (rd_L4 l0_0 x4_1) x5_2]) := ⟨_, rfl⟩
   replace H : (spec_l5Good.l1 k2 y484 x4_1 (wrap64 (x5_2 + 1)) l0_0) = some r := by (rw [hy484]; with_reducible exact H) 
   have Ny484 := Aside0.mk hy484
   clear hy484
   have H' := Aside0.mk H
   clear H
   have hcz24_0 := bc BK473 0
   have hfz24_0 := blk_frozen BK473.out 0
   have p479 : 0 ≤ (x4_1 : Int) := oda
   have q479 : x4_1 < (l0_0.length : Int) := oda
   obtain ⟨ad479, A479_0, c479_0, e479, hx479_0, hl479_0, hi479_0⟩ := at_L4 HR0_0.out x4_1 p479 q479
   obtain rfl : ad478 = ad479 := (by injection e479)
   replace hx479_0 := cel HB hx479_0
   have HR479_0 := Aside0.mk hi479_0
   have HC479_0 := Aside0.mk hl479_0
   clear hi479_0 hl479_0
   replace p479 := eq_true p479
   replace q479 := eq_true q479
   have p480 : 0 ≤ (x4_1 : Int) := oda
   have q480 : x4_1 < (l0_0.length : Int) := oda
   obtain ⟨ad480, A480_0, c480_0, e480, hx480_0, hl480_0, hi480_0⟩ := at_L4 HR0_0.out x4_1 p480 q480
   obtain rfl : ad478 = ad480 := (by injection e480)
   replace hx480_0 := cel HB hx480_0
   have HR480_0 := Aside0.mk hi480_0
   have HC480_0 := Aside0.mk hl480_0
   clear hi480_0 hl480_0
   replace p480 := eq_true p480
   replace q480 := eq_true q480
   have ea_ := Option.some.inj (hx479_0.symm.trans hx480_0)
   injection ea_ with ea_ en_ ec_
   subst ea_
   subst ec_
   clear en_
   have p481 : 0 ≤ (x5_2 : Int) := oda
   have q481 : x5_2 < ((rd_L4 l0_0 x4_1).length : Int) := oda
   obtain ⟨ad481, e481, hx481_0⟩ := Kd.at_int HR480_0.out x5_2 p481 q481
   cases e481
   replace hx481_0 := cel HB hx481_0
   replace p481 := eq_true p481
   replace q481 := eq_true q481
   go_wp2_with (first | ((with_reducible refine gate_callee (f := 25) rfl ?_); refine goesL_ (some 46) rfl rfl Try.func25 (by kernel_rfl) rfl #[.int .i64 (rd (rd_L4 l0_0 x4_1) x5_2), .int .i64 1, .int .i64 99] rfl gmp ?_; (with_reducible refine (spec_l1In.calls (rd (rd_L4 l0_0 x4_1) x5_2) 1 99 true _ A17.out).mono ?_); rintro e w' ⟨rfl, ⟨nd, rfl⟩⟩; refine ⟨_, rfl, ?_⟩; obtain ⟨Ao25, co25, eo25⟩ := Kd.R_slice HO_3.out; subst eo25) | (go_at_call 54; (with_reducible refine (spec_l1Has.calls k2 _ _ x3_2 (rd (rd_L4 l0_0 x4_1) x5_2) false _ ?side1 ?side2 A19.out).mono ?_); (case side1 => repeat (exact (Kd.R_reads' HO_3.out).2.2 )); (case side2 => exact (Kd.R_reads' HO_3.out).2.1); rintro e w' ⟨rfl, ⟨nd, rfl⟩⟩) | ((with_reducible refine gate_builtin (b := .append) (xs := #[.tmp 53, .tmp 55]) rfl ?_); at_builtin; refine Kd.R_append (Kd.int .i64) (w0 := w) w.heap.size rfl (.tmp 53) (.tmp 55) 30 3 (.int .i64 0) 8 rfl Try.underlying30 info3 rfl (by decide) (by omega) (.slice Ao25 x3_2.length co25) x3_2 (rd (rd_L4 l0_0 x4_1) x5_2) [.int .i64 (rd (rd_L4 l0_0 x4_1) x5_2)] (fun _ => True) (fun _ => False) rfl rfl ?aP (fun _ hk => hk.elim) ?aF ?aO ?aB ?aS ?aL ?_; (case aP => exact rfl); (case aB => exact (bel1 HB GE473)); (case aF => exact (fun _ _ => trivial)); (case aO => exact (rdl HO_3)); (case aS => exact (below_size (bel1 HB GE473))); (case aL => have := LMc23.out; omega); intro v485 w26 ho hb hg hat; rw [← Ny484.out] at ho; replace BK473 := Aside0.mk (blk_grown (g := gb473) (o := .cells #[.slice (some ad478) l0_0.length c0_0] 26 (0, 0)) (bkl BK473) hg (Kd.R_ne HO_3.out BK473.out (by decide))); replace HB := Aside0.mk (hb); have HO486 := Aside0.mk (ho); clear HO_3; clear ho hb hg hat))
   go_roundg k2
   case measure => have := HK1.out; have := HK2.out; omega
   case rel => exact ⟨(y484), (wrap64 (x5_2 + 1)), (by rfl ), H', ⟨by have := HK1.out; have := HK2.out; omega⟩, ⟨rdl HO486⟩, ⟨bkl BK473⟩, ⟨bel1 HB GE473⟩⟩
/-! ### spec_l2Seven: function 70 -/
def spec_l2Seven.l0 : Nat → ByteArray → Int → Option (Bool)
 | 0, _, _ => none
 | k + 1, x0, x3 => if x3 < 7 then (if x3 < 3 then (if 0 ≤ x3 then (if x3 < (x0.size : Int) then (if (bt x0 x3) < 65 then (some false) else (if (bt x0 x3) > 90 then (some false) else (if x3 > 2 then (if (bt x0 x3) < 48 then (some false) else (if (bt x0 x3) > 57 then (some false) else (spec_l2Seven.l0 k x0 (wrap64 (x3 + 1))))) else (spec_l2Seven.l0 k x0 (wrap64 (x3 + 1)))))) else (none)) else (none)) else (if x3 > 2 then (if 0 ≤ x3 then (if x3 < (x0.size : Int) then (if (bt x0 x3) < 48 then (some false) else (if (bt x0 x3) > 57 then (some false) else (spec_l2Seven.l0 k x0 (wrap64 (x3 + 1))))) else (none)) else (none)) else (spec_l2Seven.l0 k x0 (wrap64 (x3 + 1))))) else (some true)
def spec_l2Seven.f (k : Nat) (a0 : ByteArray) : Option (Bool) := if (a0.size : Int) = 7 then (spec_l2Seven.l0 k a0 0) else (some false)
set_option maxHeartbeats 8000000 in
set_option maxRecDepth 100000 in
theorem spec_l2Seven.calls (k : Nat) (a0 : ByteArray) (r : Bool) (w : World) (h : spec_l2Seven.f k a0 = some r) :
  Calls Try.prog 70 #[.string a0] w fun e w' => e = .returned (.bool r) ∧ Drawn0 w w' := by
 have H : (if (a0.size : Int) = 7 then (spec_l2Seven.l0 k a0 0) else (some false)) = some r := h
 clear h
 by_cases c2 : (a0.size : Int) = 7
 rotate_left
 ·rw [if_neg c2] at H
  have c2b0 : ((a0.size : Int) == 7) = false := beq_eq_false_iff_ne.mpr c2
  have c2b1 : ((a0.size : Int) != 7) = true := bne_iff_ne.mpr c2
  obtain rfl := Option.some.inj H
  go_enter Try.func70, Try.ntmps70
  go_wp2
  go_ret
  exact ⟨by rfl , by repeat (exact Drawn0.refl _ )⟩
 rw [if_pos c2] at H
 have c2b0 : ((a0.size : Int) == 7) = true := beq_iff_eq.mpr c2
 have c2b1 : ((a0.size : Int) != 7) = false := bne_eq_false_iff_eq.mpr c2
 clear c2
 have H' := Aside0.mk H
 clear H
 go_enter Try.func70, Try.ntmps70
 go_wp2
 go_loopg [3] k (fun kq v3 w' => ∃ (x3_1 : Int), v3 = .int .i64 x3_1 ∧ Aside0 (spec_l2Seven.l0 kq a0 x3_1 = some r) ∧ Aside0 (kq ≤ k) ∧ Drawn0 w w')
 case atStart => exact ⟨(0), (by rfl ), H', ⟨Nat.le_refl _⟩, by repeat (exact Drawn0.refl _ )⟩
 clear H'
 try clear c2b0
 try clear c2b1
 obtain ⟨x3_1, rfl, HA, HK1, ⟨m1, rfl⟩⟩ := hrel
 cases gk with
 | zero => exact absurd HA.out (by simp [spec_l2Seven.l0])
 | succ k1 =>
  have H := HA.out
  clear HA
  simp only [spec_l2Seven.l0] at H
  by_cases c3 : x3_1 < 7
  rotate_left
  ·rw [if_neg c3] at H
   have c3b0 : decide (x3_1 < 7) = false := decide_eq_false c3
   clear c3
   obtain rfl := Option.some.inj H
   go_wp2
   go_ret
   exact ⟨by rfl , by repeat (first | exact Drawn0.refl _ | apply Drawn0.step)⟩
  rw [if_pos c3] at H
  have c3b0 : decide (x3_1 < 7) = true := decide_eq_true c3
  clear c3
  by_cases c4 : x3_1 < 3
  rotate_left
  ·rw [if_neg c4] at H
   have c4b0 : decide (x3_1 < 3) = false := decide_eq_false c4
   clear c4
   by_cases c16 : x3_1 > 2
   rotate_left
   ·rw [if_neg c16] at H
    have c16b0 : decide (2 < x3_1) = false := decide_eq_false c16
    clear c16
    have H' := Aside0.mk H
    clear H
    go_wp2
    go_roundg k1
    case measure => have := HK1.out; omega
    case rel => exact ⟨(wrap64 (x3_1 + 1)), (by rfl ), H', ⟨by have := HK1.out; omega⟩, by repeat (first | exact Drawn0.refl _ | apply Drawn0.step)⟩
   rw [if_pos c16] at H
   have c16b0 : decide (2 < x3_1) = true := decide_eq_true c16
   clear c16
   by_cases c17 : 0 ≤ x3_1
   rotate_left
   ·rw [if_neg c17] at H
    exact absurd H (by simp)
   rw [if_pos c17] at H
   have c17b0 : decide (0 ≤ x3_1) = true := decide_eq_true c17
   clear c17
   by_cases c18 : x3_1 < (a0.size : Int)
   rotate_left
   ·rw [if_neg c18] at H
    exact absurd H (by simp)
   rw [if_pos c18] at H
   have c18b0 : decide (x3_1 < (a0.size : Int)) = true := decide_eq_true c18
   clear c18
   by_cases c20 : (bt a0 x3_1) < 48
   ·rw [if_pos c20] at H
    have c20b0 : decide ((bt a0 x3_1) < 48) = true := decide_eq_true c20
    clear c20
    obtain rfl := Option.some.inj H
    have p19 : 0 ≤ (x3_1 : Int) := oda
    have q19 : x3_1 < (a0.size : Int) := oda
    have hx19 := bt_at a0 x3_1
    replace p19 := eq_true p19
    replace q19 := eq_true q19
    go_wp2
    go_ret
    exact ⟨by rfl , by repeat (first | exact Drawn0.refl _ | apply Drawn0.step)⟩
   rw [if_neg c20] at H
   have c20b0 : decide ((bt a0 x3_1) < 48) = false := decide_eq_false c20
   clear c20
   by_cases c22 : (bt a0 x3_1) > 57
   ·rw [if_pos c22] at H
    have c22b0 : decide (57 < (bt a0 x3_1)) = true := decide_eq_true c22
    clear c22
    obtain rfl := Option.some.inj H
    have p19 : 0 ≤ (x3_1 : Int) := oda
    have q19 : x3_1 < (a0.size : Int) := oda
    have hx19 := bt_at a0 x3_1
    replace p19 := eq_true p19
    replace q19 := eq_true q19
    have p21 : 0 ≤ (x3_1 : Int) := oda
    have q21 : x3_1 < (a0.size : Int) := oda
    have hx21 := bt_at a0 x3_1
    replace p21 := eq_true p21
    replace q21 := eq_true q21
    go_wp2
    go_ret
    exact ⟨by rfl , by repeat (first | exact Drawn0.refl _ | apply Drawn0.step)⟩
   rw [if_neg c22] at H
   have c22b0 : decide (57 < (bt a0 x3_1)) = false := decide_eq_false c22
   clear c22
   have H' := Aside0.mk H
   clear H
   have p19 : 0 ≤ (x3_1 : Int) := oda
   have q19 : x3_1 < (a0.size : Int) := oda
   have hx19 := bt_at a0 x3_1
   replace p19 := eq_true p19
   replace q19 := eq_true q19
   have p21 : 0 ≤ (x3_1 : Int) := oda
   have q21 : x3_1 < (a0.size : Int) := oda
   have hx21 := bt_at a0 x3_1
   replace p21 := eq_true p21
   replace q21 := eq_true q21
   go_wp2
   go_roundg k1
   case measure => have := HK1.out; omega
   case rel => exact ⟨(wrap64 (x3_1 + 1)), (by rfl ), H', ⟨by have := HK1.out; omega⟩, by repeat (first | exact Drawn0.refl _ | apply Drawn0.step)⟩
  rw [if_pos c4] at H
  have c4b0 : decide (x3_1 < 3) = true := decide_eq_true c4
  clear c4
  by_cases c5 : 0 ≤ x3_1
  rotate_left
  ·rw [if_neg c5] at H
   exact absurd H (by simp)
  rw [if_pos c5] at H
  have c5b0 : decide (0 ≤ x3_1) = true := decide_eq_true c5
  clear c5
  by_cases c6 : x3_1 < (a0.size : Int)
  rotate_left
  ·rw [if_neg c6] at H
   exact absurd H (by simp)
  rw [if_pos c6] at H
  have c6b0 : decide (x3_1 < (a0.size : Int)) = true := decide_eq_true c6
  clear c6
  by_cases c8 : (bt a0 x3_1) < 65
  ·rw [if_pos c8] at H
   have c8b0 : decide ((bt a0 x3_1) < 65) = true := decide_eq_true c8
   clear c8
   obtain rfl := Option.some.inj H
   have p7 : 0 ≤ (x3_1 : Int) := oda
   have q7 : x3_1 < (a0.size : Int) := oda
   have hx7 := bt_at a0 x3_1
   replace p7 := eq_true p7
   replace q7 := eq_true q7
   go_wp2
   go_ret
   exact ⟨by rfl , by repeat (first | exact Drawn0.refl _ | apply Drawn0.step)⟩
  rw [if_neg c8] at H
  have c8b0 : decide ((bt a0 x3_1) < 65) = false := decide_eq_false c8
  clear c8
  by_cases c10 : (bt a0 x3_1) > 90
  ·rw [if_pos c10] at H
   have c10b0 : decide (90 < (bt a0 x3_1)) = true := decide_eq_true c10
   clear c10
   obtain rfl := Option.some.inj H
   have p7 : 0 ≤ (x3_1 : Int) := oda
   have q7 : x3_1 < (a0.size : Int) := oda
   have hx7 := bt_at a0 x3_1
   replace p7 := eq_true p7
   replace q7 := eq_true q7
   have p9 : 0 ≤ (x3_1 : Int) := oda
   have q9 : x3_1 < (a0.size : Int) := oda
   have hx9 := bt_at a0 x3_1
   replace p9 := eq_true p9
   replace q9 := eq_true q9
   go_wp2
   go_ret
   exact ⟨by rfl , by repeat (first | exact Drawn0.refl _ | apply Drawn0.step)⟩
  rw [if_neg c10] at H
  have c10b0 : decide (90 < (bt a0 x3_1)) = false := decide_eq_false c10
  clear c10
  by_cases c11 : x3_1 > 2
  rotate_left
  ·rw [if_neg c11] at H
   have c11b0 : decide (2 < x3_1) = false := decide_eq_false c11
   clear c11
   have H' := Aside0.mk H
   clear H
   have p7 : 0 ≤ (x3_1 : Int) := oda
   have q7 : x3_1 < (a0.size : Int) := oda
   have hx7 := bt_at a0 x3_1
   replace p7 := eq_true p7
   replace q7 := eq_true q7
   have p9 : 0 ≤ (x3_1 : Int) := oda
   have q9 : x3_1 < (a0.size : Int) := oda
   have hx9 := bt_at a0 x3_1
   replace p9 := eq_true p9
   replace q9 := eq_true q9
   go_wp2
   go_roundg k1
   case measure => have := HK1.out; omega
   case rel => exact ⟨(wrap64 (x3_1 + 1)), (by rfl ), H', ⟨by have := HK1.out; omega⟩, by repeat (first | exact Drawn0.refl _ | apply Drawn0.step)⟩
  rw [if_pos c11] at H
  have c11b0 : decide (2 < x3_1) = true := decide_eq_true c11
  clear c11
  by_cases c13 : (bt a0 x3_1) < 48
  ·rw [if_pos c13] at H
   have c13b0 : decide ((bt a0 x3_1) < 48) = true := decide_eq_true c13
   clear c13
   obtain rfl := Option.some.inj H
   have p7 : 0 ≤ (x3_1 : Int) := oda
   have q7 : x3_1 < (a0.size : Int) := oda
   have hx7 := bt_at a0 x3_1
   replace p7 := eq_true p7
   replace q7 := eq_true q7
   have p9 : 0 ≤ (x3_1 : Int) := oda
   have q9 : x3_1 < (a0.size : Int) := oda
   have hx9 := bt_at a0 x3_1
   replace p9 := eq_true p9
   replace q9 := eq_true q9
   have p12 : 0 ≤ (x3_1 : Int) := oda
   have q12 : x3_1 < (a0.size : Int) := oda
   have hx12 := bt_at a0 x3_1
   replace p12 := eq_true p12
   replace q12 := eq_true q12
   go_wp2
   go_ret
   exact ⟨by rfl , by repeat (first | exact Drawn0.refl _ | apply Drawn0.step)⟩
  rw [if_neg c13] at H
  have c13b0 : decide ((bt a0 x3_1) < 48) = false := decide_eq_false c13
  clear c13
  by_cases c15 : (bt a0 x3_1) > 57
  ·rw [if_pos c15] at H
   have c15b0 : decide (57 < (bt a0 x3_1)) = true := decide_eq_true c15
   clear c15
   obtain rfl := Option.some.inj H
   have p7 : 0 ≤ (x3_1 : Int) := oda
   have q7 : x3_1 < (a0.size : Int) := oda
   have hx7 := bt_at a0 x3_1
   replace p7 := eq_true p7
   replace q7 := eq_true q7
   have p9 : 0 ≤ (x3_1 : Int) := oda
   have q9 : x3_1 < (a0.size : Int) := oda
   have hx9 := bt_at a0 x3_1
   replace p9 := eq_true p9
   replace q9 := eq_true q9
   have p12 : 0 ≤ (x3_1 : Int) := oda
   have q12 : x3_1 < (a0.size : Int) := oda
   have hx12 := bt_at a0 x3_1
   replace p12 := eq_true p12
   replace q12 := eq_true q12
   have p14 : 0 ≤ (x3_1 : Int) := oda
   have q14 : x3_1 < (a0.size : Int) := oda
   have hx14 := bt_at a0 x3_1
   replace p14 := eq_true p14
   replace q14 := eq_true q14
   go_wp2
   go_ret
   exact ⟨by rfl , by repeat (first | exact Drawn0.refl _ | apply Drawn0.step)⟩
  rw [if_neg c15] at H
  have c15b0 : decide (57 < (bt a0 x3_1)) = false := decide_eq_false c15
  clear c15
  have H' := Aside0.mk H
  clear H
  have p7 : 0 ≤ (x3_1 : Int) := oda
  have q7 : x3_1 < (a0.size : Int) := oda
  have hx7 := bt_at a0 x3_1
  replace p7 := eq_true p7
  replace q7 := eq_true q7
  have p9 : 0 ≤ (x3_1 : Int) := oda
  have q9 : x3_1 < (a0.size : Int) := oda
  have hx9 := bt_at a0 x3_1
  replace p9 := eq_true p9
  replace q9 := eq_true q9
  have p12 : 0 ≤ (x3_1 : Int) := oda
  have q12 : x3_1 < (a0.size : Int) := oda
  have hx12 := bt_at a0 x3_1
  replace p12 := eq_true p12
  replace q12 := eq_true q12
  have p14 : 0 ≤ (x3_1 : Int) := oda
  have q14 : x3_1 < (a0.size : Int) := oda
  have hx14 := bt_at a0 x3_1
  replace p14 := eq_true p14
  replace q14 := eq_true q14
  go_wp2
  go_roundg k1
  case measure => have := HK1.out; omega
  case rel => exact ⟨(wrap64 (x3_1 + 1)), (by rfl ), H', ⟨by have := HK1.out; omega⟩, by repeat (first | exact Drawn0.refl _ | apply Drawn0.step)⟩
/-! ### spec_l2Id: function 65 -/
def spec_l2Id.f (k : Nat) (a0 : ByteArray) : Option (Bool) := if (a0.size : Int) = 8 then (if 0 ≤ 7 then (if 7 ≤ (a0.size : Int) then ((spec_l2Seven.f k (a0.extract 0 7)).bind fun t487 => (if t487 = true then (if 7 < (a0.size : Int) then ((spec_l2Check.f k (a0.extract 0 7)).bind fun t488 => (some ((bt a0 7) == t488))) else (none)) else (some false))) else (none)) else (none)) else (some false)
set_option maxHeartbeats 8000000 in
set_option maxRecDepth 100000 in
theorem spec_l2Id.calls (k : Nat) (a0 : ByteArray) (r : Bool) (w : World) (h : spec_l2Id.f k a0 = some r) :
  Calls Try.prog 65 #[.string a0] w fun e w' => e = .returned (.bool r) ∧ Drawn0 w w' := by
 have H : (if (a0.size : Int) = 8 then (if 0 ≤ 7 then (if 7 ≤ (a0.size : Int) then ((spec_l2Seven.f k (a0.extract 0 7)).bind fun t487 => (if t487 = true then (if 7 < (a0.size : Int) then ((spec_l2Check.f k (a0.extract 0 7)).bind fun t488 => (some ((bt a0 7) == t488))) else (none)) else (some false))) else (none)) else (none)) else (some false)) = some r := h
 clear h
 by_cases c2 : (a0.size : Int) = 8
 rotate_left
 ·rw [if_neg c2] at H
  have c2b0 : ((a0.size : Int) == 8) = false := beq_eq_false_iff_ne.mpr c2
  have c2b1 : ((a0.size : Int) != 8) = true := bne_iff_ne.mpr c2
  obtain rfl := Option.some.inj H
  go_enter Try.func65, Try.ntmps65
  go_wp2
  repeat (go_quiet (fail); try go_wp2)
  go_ret
  exact ⟨by rfl , by repeat (first | exact Drawn0.refl _ | apply Drawn0.step)⟩
 rw [if_pos c2] at H
 have c2b0 : ((a0.size : Int) == 8) = true := beq_iff_eq.mpr c2
 have c2b1 : ((a0.size : Int) != 8) = false := bne_eq_false_iff_eq.mpr c2
 clear c2
 by_cases c3 : 0 ≤ 7
 rotate_left
 ·rw [if_neg c3] at H
  exact absurd H (by simp)
 rw [if_pos c3] at H
 have c3b0 := eq_true c3
 have c3b1 : decide (0 ≤ 7) = true := decide_eq_true c3
 clear c3
 by_cases c4 : 7 ≤ (a0.size : Int)
 rotate_left
 ·rw [if_neg c4] at H
  exact absurd H (by simp)
 rw [if_pos c4] at H
 have c4b0 := eq_true c4
 have c4b1 : decide (7 ≤ (a0.size : Int)) = true := decide_eq_true c4
 clear c4
 obtain ⟨t487, A5, H⟩ := bnd H
 try dsimp only at H
 by_cases c6 : t487 = true
 rotate_left
 ·replace c6 := Bool.eq_false_iff.mpr c6
  subst c6
  replace H : (some false) = some r := by rw [if_neg (show ¬ (false = true) by decide)] at H; exact H
  obtain rfl := Option.some.inj H
  go_enter Try.func65, Try.ntmps65
  go_wp2_with (fail)
  repeat (go_quiet (first | (go_at_call 70; (with_reducible refine (spec_l2Seven.calls k (a0.extract 0 7) false _ A5.out).mono ?_); rintro e w' ⟨rfl, ⟨nd, rfl⟩⟩; (try first | exact ⟨rfl, _, dd2⟩ | exact ⟨rfl, _, dd3⟩))); try go_wp2_with (fail))
  go_ret
  exact ⟨by rfl , by repeat (first | exact Drawn0.refl _ | apply Drawn0.step)⟩
 subst c6
 replace H : (if 7 < (a0.size : Int) then ((spec_l2Check.f k (a0.extract 0 7)).bind fun t488 => (some ((bt a0 7) == t488))) else (none)) = some r := by rw [if_pos rfl] at H; exact H
 by_cases c7 : 7 < (a0.size : Int)
 rotate_left
 ·rw [if_neg c7] at H
  exact absurd H (by simp)
 rw [if_pos c7] at H
 have c7b0 : decide (7 < (a0.size : Int)) = true := decide_eq_true c7
 have c7b1 : decide (7 < a0.size) = true := decide_eq_true (by omega)
 clear c7
 have c9b0 := eq_true (oda : 0 ≤ 7)
 have c10b0 := eq_true (oda : 7 ≤ (a0.size : Int))
 obtain ⟨t488, A11, H⟩ := bnd H
 try dsimp only at H
 obtain rfl := Option.some.inj H
 go_enter Try.func65, Try.ntmps65
 go_wp2_with (fail)
 repeat (go_quiet (first | (go_at_call 70; (with_reducible refine (spec_l2Seven.calls k (a0.extract 0 7) true _ A5.out).mono ?_); rintro e w' ⟨rfl, ⟨nd, rfl⟩⟩; (try first | exact ⟨rfl, _, dd2⟩ | exact ⟨rfl, _, dd3⟩); have p8 : 0 ≤ (7 : Int) := (by omega); have q8 : 7 < a0.size := (by have : (7 : Int) < (a0.size : Int) := oda; omega); have hx8 : ∀ h : 7 < a0.size, ((a0[7]'h).toNat : Int) = bt a0 7 := bt_at a0 7; clear p8; have qi8 : (7 < (a0.size : Int)) = True := eq_true (oda); replace q8 := eq_true q8) | (go_at_call 61; (with_reducible refine (spec_l2Check.calls k (a0.extract 0 7) t488 _ A11.out).mono ?_); rintro e w' ⟨rfl, ⟨nd, rfl⟩⟩; (try first | exact ⟨rfl, _, dd2⟩ | exact ⟨rfl, _, dd3⟩))); try go_wp2_with (fail))
 go_ret
 exact ⟨by rfl , by repeat (first | exact Drawn0.refl _ | apply Drawn0.step)⟩
/-! ### spec_l2Good: function 55 -/
def spec_l2Good.f (k : Nat) (a0_0 : ByteArray) (a0_1 : Int) (a0_2 : Int) (a0_3 : Int) (a0_4 : Int) : Option (Bool) := (spec_l2Id.f k a0_0).bind fun t490 => (if t490 = true then ((spec_l1In.f a0_1 1 2).bind fun t491 => (if t491 = true then ((spec_l1In.f a0_2 1 32000).bind fun t492 => (if t492 = true then ((spec_l1In.f a0_3 1 3).bind fun t493 => (if t493 = true then ((spec_l1In.f a0_4 1 9).bind fun t494 => (some t494)) else (some false))) else (some false))) else (some false))) else (some false))
set_option maxHeartbeats 8000000 in
set_option maxRecDepth 100000 in
theorem spec_l2Good.calls (k : Nat) (a0_0 : ByteArray) (a0_1 : Int) (a0_2 : Int) (a0_3 : Int) (a0_4 : Int) (r : Bool) (w : World) (h : spec_l2Good.f k a0_0 a0_1 a0_2 a0_3 a0_4 = some r) :
  Calls Try.prog 55 #[.agg #[.string a0_0, .int .i64 a0_1, .int .i64 a0_2, .int .i64 a0_3, .int .i64 a0_4]] w fun e w' => e = .returned (.bool r) ∧ Below w.heap.size w w' := by
 have hu71 := Try.underlying71
 have HB := Aside0.mk (Below.refl w.heap.size w)
 have H : ((spec_l2Id.f k a0_0).bind fun t490 => (if t490 = true then ((spec_l1In.f a0_1 1 2).bind fun t491 => (if t491 = true then ((spec_l1In.f a0_2 1 32000).bind fun t492 => (if t492 = true then ((spec_l1In.f a0_3 1 3).bind fun t493 => (if t493 = true then ((spec_l1In.f a0_4 1 9).bind fun t494 => (some t494)) else (some false))) else (some false))) else (some false))) else (some false))) = some r := h
 clear h
 obtain ⟨t490, A2, H⟩ := bnd H
 try dsimp only at H
 by_cases c3 : t490 = true
 rotate_left
 ·replace c3 := Bool.eq_false_iff.mpr c3
  subst c3
  replace H : (some false) = some r := by rw [if_neg (show ¬ (false = true) by decide)] at H; exact H
  obtain rfl := Option.some.inj H
  go_enter Try.func55, Try.ntmps55
  go_wp2_with (first | ((with_reducible refine gate_dst (N := 1) rfl ?_); refine box_event ?hg (N := 1) ?hd (cs := #[.string a0_0, .int .i64 a0_1, .int .i64 a0_2, .int .i64 a0_3, .int .i64 a0_4]) (t := 71) ?hr ?_; (case hd | hg => rfl); (case hr => go_simp); intro gb489 hg w19 hbox hb; have BK489 := Aside0.mk (hbox); have GW489 := gsb (w := w) hg (bel HB); have GE489 := gsb (w := w) hg (bel HB); replace HB := Aside0.mk (below_step (bel HB) hb); clear hb hbox hg; obtain ⟨_, _, _, _, _, _, _, _, _, _⟩ := bf5 BK489) | ((with_reducible refine gate_callee (f := 65) rfl ?_); refine goesL_ (some 5) rfl rfl Try.func65 (by kernel_rfl) rfl #[.string a0_0] rfl gmp ?_; (with_reducible refine (spec_l2Id.calls k a0_0 false _ A2.out).mono ?_); rintro e w' ⟨rfl, ⟨nd, rfl⟩⟩; refine ⟨_, rfl, ?_⟩))
  go_ret
  exact ⟨by rfl , bel1 HB GE489⟩
 subst c3
 replace H : ((spec_l1In.f a0_1 1 2).bind fun t491 => (if t491 = true then ((spec_l1In.f a0_2 1 32000).bind fun t492 => (if t492 = true then ((spec_l1In.f a0_3 1 3).bind fun t493 => (if t493 = true then ((spec_l1In.f a0_4 1 9).bind fun t494 => (some t494)) else (some false))) else (some false))) else (some false))) = some r := by rw [if_pos rfl] at H; exact H
 obtain ⟨t491, A4, H⟩ := bnd H
 try dsimp only at H
 by_cases c5 : t491 = true
 rotate_left
 ·replace c5 := Bool.eq_false_iff.mpr c5
  subst c5
  replace H : (some false) = some r := by rw [if_neg (show ¬ (false = true) by decide)] at H; exact H
  obtain rfl := Option.some.inj H
  go_enter Try.func55, Try.ntmps55
  go_wp2_with (first | ((with_reducible refine gate_dst (N := 1) rfl ?_); refine box_event ?hg (N := 1) ?hd (cs := #[.string a0_0, .int .i64 a0_1, .int .i64 a0_2, .int .i64 a0_3, .int .i64 a0_4]) (t := 71) ?hr ?_; (case hd | hg => rfl); (case hr => go_simp); intro gb489 hg w17 hbox hb; have BK489 := Aside0.mk (hbox); have GW489 := gsb (w := w) hg (bel HB); have GE489 := gsb (w := w) hg (bel HB); replace HB := Aside0.mk (below_step (bel HB) hb); clear hb hbox hg; obtain ⟨_, _, _, _, _, _, _, _, _, _⟩ := bf5 BK489) | ((with_reducible refine gate_callee (f := 65) rfl ?_); refine goesL_ (some 5) rfl rfl Try.func65 (by kernel_rfl) rfl #[.string a0_0] rfl gmp ?_; (with_reducible refine (spec_l2Id.calls k a0_0 true _ A2.out).mono ?_); rintro e w' ⟨rfl, ⟨nd, rfl⟩⟩; refine ⟨_, rfl, ?_⟩) | (go_at_call 25; (with_reducible refine (spec_l1In.calls a0_1 1 2 false _ A4.out).mono ?_); rintro e w' ⟨rfl, ⟨nd, rfl⟩⟩))
  go_ret
  exact ⟨by rfl , bel1 HB GE489⟩
 subst c5
 replace H : ((spec_l1In.f a0_2 1 32000).bind fun t492 => (if t492 = true then ((spec_l1In.f a0_3 1 3).bind fun t493 => (if t493 = true then ((spec_l1In.f a0_4 1 9).bind fun t494 => (some t494)) else (some false))) else (some false))) = some r := by rw [if_pos rfl] at H; exact H
 obtain ⟨t492, A6, H⟩ := bnd H
 try dsimp only at H
 by_cases c7 : t492 = true
 rotate_left
 ·replace c7 := Bool.eq_false_iff.mpr c7
  subst c7
  replace H : (some false) = some r := by rw [if_neg (show ¬ (false = true) by decide)] at H; exact H
  obtain rfl := Option.some.inj H
  go_enter Try.func55, Try.ntmps55
  go_wp2_with (first | ((with_reducible refine gate_dst (N := 1) rfl ?_); refine box_event ?hg (N := 1) ?hd (cs := #[.string a0_0, .int .i64 a0_1, .int .i64 a0_2, .int .i64 a0_3, .int .i64 a0_4]) (t := 71) ?hr ?_; (case hd | hg => rfl); (case hr => go_simp); intro gb489 hg w15 hbox hb; have BK489 := Aside0.mk (hbox); have GW489 := gsb (w := w) hg (bel HB); have GE489 := gsb (w := w) hg (bel HB); replace HB := Aside0.mk (below_step (bel HB) hb); clear hb hbox hg; obtain ⟨_, _, _, _, _, _, _, _, _, _⟩ := bf5 BK489) | ((with_reducible refine gate_callee (f := 65) rfl ?_); refine goesL_ (some 5) rfl rfl Try.func65 (by kernel_rfl) rfl #[.string a0_0] rfl gmp ?_; (with_reducible refine (spec_l2Id.calls k a0_0 true _ A2.out).mono ?_); rintro e w' ⟨rfl, ⟨nd, rfl⟩⟩; refine ⟨_, rfl, ?_⟩) | (go_at_call 25; (with_reducible refine (spec_l1In.calls a0_1 1 2 true _ A4.out).mono ?_); rintro e w' ⟨rfl, ⟨nd, rfl⟩⟩) | (go_at_call 25; (with_reducible refine (spec_l1In.calls a0_2 1 32000 false _ A6.out).mono ?_); rintro e w' ⟨rfl, ⟨nd, rfl⟩⟩))
  go_ret
  exact ⟨by rfl , bel1 HB GE489⟩
 subst c7
 replace H : ((spec_l1In.f a0_3 1 3).bind fun t493 => (if t493 = true then ((spec_l1In.f a0_4 1 9).bind fun t494 => (some t494)) else (some false))) = some r := by rw [if_pos rfl] at H; exact H
 obtain ⟨t493, A8, H⟩ := bnd H
 try dsimp only at H
 by_cases c9 : t493 = true
 rotate_left
 ·replace c9 := Bool.eq_false_iff.mpr c9
  subst c9
  replace H : (some false) = some r := by rw [if_neg (show ¬ (false = true) by decide)] at H; exact H
  obtain rfl := Option.some.inj H
  go_enter Try.func55, Try.ntmps55
  go_wp2_with (first | ((with_reducible refine gate_dst (N := 1) rfl ?_); refine box_event ?hg (N := 1) ?hd (cs := #[.string a0_0, .int .i64 a0_1, .int .i64 a0_2, .int .i64 a0_3, .int .i64 a0_4]) (t := 71) ?hr ?_; (case hd | hg => rfl); (case hr => go_simp); intro gb489 hg w13 hbox hb; have BK489 := Aside0.mk (hbox); have GW489 := gsb (w := w) hg (bel HB); have GE489 := gsb (w := w) hg (bel HB); replace HB := Aside0.mk (below_step (bel HB) hb); clear hb hbox hg; obtain ⟨_, _, _, _, _, _, _, _, _, _⟩ := bf5 BK489) | ((with_reducible refine gate_callee (f := 65) rfl ?_); refine goesL_ (some 5) rfl rfl Try.func65 (by kernel_rfl) rfl #[.string a0_0] rfl gmp ?_; (with_reducible refine (spec_l2Id.calls k a0_0 true _ A2.out).mono ?_); rintro e w' ⟨rfl, ⟨nd, rfl⟩⟩; refine ⟨_, rfl, ?_⟩) | (go_at_call 25; (with_reducible refine (spec_l1In.calls a0_1 1 2 true _ A4.out).mono ?_); rintro e w' ⟨rfl, ⟨nd, rfl⟩⟩) | (go_at_call 25; (with_reducible refine (spec_l1In.calls a0_2 1 32000 true _ A6.out).mono ?_); rintro e w' ⟨rfl, ⟨nd, rfl⟩⟩) | (go_at_call 25; (with_reducible refine (spec_l1In.calls a0_3 1 3 false _ A8.out).mono ?_); rintro e w' ⟨rfl, ⟨nd, rfl⟩⟩))
  go_ret
  exact ⟨by rfl , bel1 HB GE489⟩
 subst c9
 replace H : ((spec_l1In.f a0_4 1 9).bind fun t494 => (some t494)) = some r := by rw [if_pos rfl] at H; exact H
 obtain ⟨t494, A10, H⟩ := bnd H
 try dsimp only at H
 obtain rfl := Option.some.inj H
 go_enter Try.func55, Try.ntmps55
 go_wp2_with (first | ((with_reducible refine gate_dst (N := 1) rfl ?_); refine box_event ?hg (N := 1) ?hd (cs := #[.string a0_0, .int .i64 a0_1, .int .i64 a0_2, .int .i64 a0_3, .int .i64 a0_4]) (t := 71) ?hr ?_; (case hd | hg => rfl); (case hr => go_simp); intro gb489 hg w11 hbox hb; have BK489 := Aside0.mk (hbox); have GW489 := gsb (w := w) hg (bel HB); have GE489 := gsb (w := w) hg (bel HB); replace HB := Aside0.mk (below_step (bel HB) hb); clear hb hbox hg; have hcz12_0 := bc BK489 0; have hcz12_1 := bc BK489 1; have hcz12_2 := bc BK489 2; have hcz12_3 := bc BK489 3; have hcz12_4 := bc BK489 4; have hfz12_0 := blk_frozen BK489.out 0; have hfz12_1 := blk_frozen BK489.out 1; have hfz12_2 := blk_frozen BK489.out 2; have hfz12_3 := blk_frozen BK489.out 3; have hfz12_4 := blk_frozen BK489.out 4) | ((with_reducible refine gate_callee (f := 65) rfl ?_); refine goesL_ (some 5) rfl rfl Try.func65 (by kernel_rfl) rfl #[.string a0_0] rfl gmp ?_; (with_reducible refine (spec_l2Id.calls k a0_0 true _ A2.out).mono ?_); rintro e w' ⟨rfl, ⟨nd, rfl⟩⟩; refine ⟨_, rfl, ?_⟩) | (go_at_call 25; (with_reducible refine (spec_l1In.calls a0_1 1 2 true _ A4.out).mono ?_); rintro e w' ⟨rfl, ⟨nd, rfl⟩⟩) | (go_at_call 25; (with_reducible refine (spec_l1In.calls a0_2 1 32000 true _ A6.out).mono ?_); rintro e w' ⟨rfl, ⟨nd, rfl⟩⟩) | (go_at_call 25; (with_reducible refine (spec_l1In.calls a0_3 1 3 true _ A8.out).mono ?_); rintro e w' ⟨rfl, ⟨nd, rfl⟩⟩) | (go_at_call 25; (with_reducible refine (spec_l1In.calls a0_4 1 9 t494 _ A10.out).mono ?_); rintro e w' ⟨rfl, ⟨nd, rfl⟩⟩))
 go_ret
 exact ⟨by rfl , bel1 HB GE489⟩
end Go.Proofs.Ytemildnlfjijmaa.P
