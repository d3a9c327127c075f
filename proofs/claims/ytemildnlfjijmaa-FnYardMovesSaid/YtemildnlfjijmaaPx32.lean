-- Written by a program of this session over the translation (a variant of the printer, see wip/gen); Lean checks it.
import Derived.Test.YtemildnlfjijmaaVC
import Derived.Test.YtemildnlfjijmaaPx0
import Derived.Test.YtemildnlfjijmaaPx14
import Derived.Test.YtemildnlfjijmaaPx21
import Derived.Test.YtemildnlfjijmaaPx22
namespace Go.Proofs.Ytemildnlfjijmaa.P
open Go.RowKit Go.Proofs.YtemildnlfjijmaaW.PrintWords Go.Proofs.YtemildnlfjijmaaW.PrintLast Go.Proofs.YtemildnlfjijmaaW.PrintMore
attribute [local go_sem] Go.Proofs.Ytemildnlfjijmaa.V.isSome_setCell max2_int min2_int max_two min_two max_three min_three max_four min_four
set_option linter.unusedVariables false
set_option linter.unusedSimpArgs false
/-! ### laws_rTable: function 13 -/
def laws_rTable.l0 : Nat → List (List Int) → List (List Int) → Int → Option (Bool)
 | 0, _, _, _ => none
 | k + 1, x0, x1, x5 => if x5 < (x0.length : Int) then (if 0 ≤ x5 then (if x5 < (x1.length : Int) then ((laws_rInts.f k (rd_L4 x0 x5) (rd_L4 x1 x5)).bind fun t641 => (if t641 = true then (laws_rTable.l0 k x0 x1 (wrap64 (x5 + 1))) else (some false))) else (none)) else (none)) else (some true)
def laws_rTable.f (k : Nat) (l0 : List (List Int)) (l1 : List (List Int)) : Option (Bool) := if (l0.length : Int) = (l1.length : Int) then (laws_rTable.l0 k l0 l1 0) else (some false)
set_option maxHeartbeats 8000000 in
set_option maxRecDepth 100000 in
theorem laws_rTable.calls (k : Nat) (A0 : Option Addr) (c0 : Nat) (l0 : List (List Int)) (A1 : Option Addr) (c1 : Nat) (l1 : List (List Int)) (r : Bool) (w : World) (hr0 : Kd.C (Kd.slice 3 (Kd.int .i64)) w A0 l0.length l0) (hc0 : l0.length ≤ c0) (hr1 : Kd.C (Kd.slice 3 (Kd.int .i64)) w A1 l1.length l1) (hc1 : l1.length ≤ c1) (h : laws_rTable.f k l0 l1 = some r) :
  Calls Try.prog 13 #[.slice A0 l0.length c0, .slice A1 l1.length c1] w fun e w' => e = .returned (.bool r) ∧ Drawn0 w w' := by
 have HR0 := Aside0.mk hr0
 have HC0 := Aside0.mk hc0
 clear hr0 hc0
 have HR1 := Aside0.mk hr1
 have HC1 := Aside0.mk hc1
 clear hr1 hc1
 have H : (if (l0.length : Int) = (l1.length : Int) then (laws_rTable.l0 k l0 l1 0) else (some false)) = some r := h
 clear h
 by_cases c3 : (l0.length : Int) = (l1.length : Int)
 rotate_left
 ·rw [if_neg c3] at H
  have c3b0 : ((l0.length : Int) == (l1.length : Int)) = false := beq_eq_false_iff_ne.mpr c3
  have c3b1 : ((l0.length : Int) != (l1.length : Int)) = true := bne_iff_ne.mpr c3
  have c3b2 : (l0.length == l1.length) = false := by (simp at c3 ⊢; omega)
  obtain rfl := Option.some.inj H
  go_enter Try.func13, Try.ntmps13
  go_wp2
  repeat (go_quiet (fail))
  go_ret
  exact ⟨by rfl , by repeat (exact Drawn0.refl _ )⟩
 rw [if_pos c3] at H
 have c3b0 : ((l0.length : Int) == (l1.length : Int)) = true := beq_iff_eq.mpr c3
 have c3b1 : ((l0.length : Int) != (l1.length : Int)) = false := bne_eq_false_iff_eq.mpr c3
 have c3b2 : (l0.length == l1.length) = true := by (simp at c3 ⊢; omega)
 clear c3
 have H' := Aside0.mk H
 clear H
 go_enter Try.func13, Try.ntmps13
 go_wp2
 repeat (go_quiet (fail))
 go_loopg [5] k (fun kq v5 w' => ∃ (x5_1 : Int), v5 = .int .i64 x5_1 ∧ Aside0 (laws_rTable.l0 kq l0 l1 x5_1 = some r) ∧ Aside0 (kq ≤ k) ∧ Drawn0 w w')
 case atStart => exact ⟨(0), (by rfl ), H', ⟨Nat.le_refl _⟩, by repeat (exact Drawn0.refl _ )⟩
 clear H'
 try clear c3b0
 try clear c3b1
 try clear c3b2
 obtain ⟨x5_1, rfl, HA, HK1, ⟨m1, rfl⟩⟩ := hrel
 cases gk with
 | zero => exact absurd HA.out (by simp [laws_rTable.l0])
 | succ k1 =>
  have H := HA.out
  clear HA
  simp only [laws_rTable.l0] at H
  by_cases c4 : x5_1 < (l0.length : Int)
  rotate_left
  ·rw [if_neg c4] at H
   have c4b0 : decide (x5_1 < (l0.length : Int)) = false := decide_eq_false c4
   clear c4
   obtain rfl := Option.some.inj H
   go_wp2
   repeat (go_quiet (fail))
   go_ret
   exact ⟨by rfl , by repeat (first | exact Drawn0.refl _ | apply Drawn0.step)⟩
  rw [if_pos c4] at H
  have c4b0 : decide (x5_1 < (l0.length : Int)) = true := decide_eq_true c4
  clear c4
  by_cases c5 : 0 ≤ x5_1
  rotate_left
  ·rw [if_neg c5] at H
   exact absurd H (by simp)
  rw [if_pos c5] at H
  have c5b0 : decide (0 ≤ x5_1) = true := decide_eq_true c5
  clear c5
  by_cases c6 : x5_1 < (l1.length : Int)
  rotate_left
  ·rw [if_neg c6] at H
   exact absurd H (by simp)
  rw [if_pos c6] at H
  have c6b0 : decide (x5_1 < (l1.length : Int)) = true := decide_eq_true c6
  clear c6
  obtain ⟨t641, A7, H⟩ := bnd H
  try dsimp only at H
  by_cases c8 : t641 = true
  rotate_left
  ·replace c8 := Bool.eq_false_iff.mpr c8
   subst c8
   replace H : (some false) = some r := by rw [if_neg (show ¬ (false = true) by decide)] at H; exact H
   obtain rfl := Option.some.inj H
   have p639 : 0 ≤ (x5_1 : Int) := oda
   have q639 : x5_1 < (l0.length : Int) := oda
   obtain ⟨ad639, A639_0, c639_0, e639, hx639_0, hl639_0, hi639_0⟩ := at_L4 HR0.out x5_1 p639 q639
   cases e639
   have HR639_0 := Aside0.mk hi639_0
   have HC639_0 := Aside0.mk hl639_0
   clear hi639_0 hl639_0
   replace p639 := eq_true p639
   replace q639 := eq_true q639
   have p640 : 0 ≤ (x5_1 : Int) := oda
   have q640 : x5_1 < (l1.length : Int) := oda
   obtain ⟨ad640, A640_0, c640_0, e640, hx640_0, hl640_0, hi640_0⟩ := at_L4 HR1.out x5_1 p640 q640
   cases e640
   have HR640_0 := Aside0.mk hi640_0
   have HC640_0 := Aside0.mk hl640_0
   clear hi640_0 hl640_0
   replace p640 := eq_true p640
   replace q640 := eq_true q640
   go_wp2_with (fail)
   repeat (go_quiet (first | (go_at_call 8; (with_reducible refine (laws_rInts.calls k1 _ _ (rd_L4 l0 x5_1) _ _ (rd_L4 l1 x5_1) false _ ?side1 ?side2 ?side3 ?side4 A7.out).mono ?_); (case side1 => exact cdl HR639_0.out); (case side2 => exact HC639_0.out); (case side3 => exact cdl HR640_0.out); (case side4 => exact HC640_0.out); rintro e w' ⟨rfl, ⟨nd, rfl⟩⟩; (try first | exact ⟨rfl, _, dd2⟩ | exact ⟨rfl, _, dd3⟩))); try go_wp2_with (fail))
   go_ret
   exact ⟨by rfl , by repeat (first | exact Drawn0.refl _ | apply Drawn0.step)⟩
  subst c8
  replace H : (laws_rTable.l0 k1 l0 l1 (wrap64 (x5_1 + 1))) = some r := by rw [if_pos rfl] at H; exact H
  have H' := Aside0.mk H
  clear H
  have p639 : 0 ≤ (x5_1 : Int) := oda
  have q639 : x5_1 < (l0.length : Int) := oda
  obtain ⟨ad639, A639_0, c639_0, e639, hx639_0, hl639_0, hi639_0⟩ := at_L4 HR0.out x5_1 p639 q639
  cases e639
  have HR639_0 := Aside0.mk hi639_0
  have HC639_0 := Aside0.mk hl639_0
  clear hi639_0 hl639_0
  replace p639 := eq_true p639
  replace q639 := eq_true q639
  have p640 : 0 ≤ (x5_1 : Int) := oda
  have q640 : x5_1 < (l1.length : Int) := oda
  obtain ⟨ad640, A640_0, c640_0, e640, hx640_0, hl640_0, hi640_0⟩ := at_L4 HR1.out x5_1 p640 q640
  cases e640
  have HR640_0 := Aside0.mk hi640_0
  have HC640_0 := Aside0.mk hl640_0
  clear hi640_0 hl640_0
  replace p640 := eq_true p640
  replace q640 := eq_true q640
  go_wp2_with (fail)
  repeat (go_quiet (first | (go_at_call 8; (with_reducible refine (laws_rInts.calls k1 _ _ (rd_L4 l0 x5_1) _ _ (rd_L4 l1 x5_1) true _ ?side1 ?side2 ?side3 ?side4 A7.out).mono ?_); (case side1 => exact cdl HR639_0.out); (case side2 => exact HC639_0.out); (case side3 => exact cdl HR640_0.out); (case side4 => exact HC640_0.out); rintro e w' ⟨rfl, ⟨nd, rfl⟩⟩; (try first | exact ⟨rfl, _, dd2⟩ | exact ⟨rfl, _, dd3⟩))); try go_wp2_with (fail))
  go_roundg k1
  case measure => have := HK1.out; omega
  case rel => exact ⟨(wrap64 (x5_1 + 1)), (by rfl ), H', ⟨by have := HK1.out; omega⟩, by repeat (first | exact Drawn0.refl _ | apply Drawn0.step)⟩
/-! ### impl_KeepsYardRules: function 14 -/
def impl_KeepsYardRules.f (k : Nat) (l0_0 : List (List Int)) (l1 : List (S71)) (a2 : Int) : Option (Bool × Bool) := (impl_areYard.f k l0_0 l1 a2).bind fun t643 => (if t643 = true then ((impl_yardFindings.f k l0_0 l1 a2).bind fun t644 => (some (((t644.length : Int) == 0), true))) else (some (false, false)))
set_option maxHeartbeats 8000000 in
set_option maxRecDepth 100000 in
theorem impl_KeepsYardRules.calls (k : Nat) (A0_0 : Option Addr) (c0_0 : Nat) (l0_0 : List (List Int)) (A1 : Option Addr) (c1 : Nat) (l1 : List (S71)) (a2 : Int) (r1 : Bool) (r2 : Bool) (w : World) (hr0_0 : Kd.C (Kd.slice 3 (Kd.int .i64)) w A0_0 l0_0.length l0_0) (hc0_0 : l0_0.length ≤ c0_0) (hr1 : Kd.C k71 w A1 l1.length l1) (hc1 : l1.length ≤ c1) (h : impl_KeepsYardRules.f k l0_0 l1 a2 = some (r1, r2)) :
  Calls Try.prog 14 #[.agg #[.slice A0_0 l0_0.length c0_0], .slice A1 l1.length c1, .int .i64 a2] w fun e w' => e = .returned (.tuple #[.bool r1, .bool r2]) ∧ Below w.heap.size w w' := by
 have hu26 := Try.underlying26
 have HR0_0 := Aside0.mk hr0_0
 have HC0_0 := Aside0.mk hc0_0
 clear hr0_0 hc0_0
 have HR1 := Aside0.mk hr1
 have HC1 := Aside0.mk hc1
 clear hr1 hc1
 have HB := Aside0.mk (Below.refl w.heap.size w)
 have H : ((impl_areYard.f k l0_0 l1 a2).bind fun t643 => (if t643 = true then ((impl_yardFindings.f k l0_0 l1 a2).bind fun t644 => (some (((t644.length : Int) == 0), true))) else (some (false, false)))) = some (r1, r2) := h
 clear h
 obtain ⟨t643, A4, H⟩ := bnd H
 try dsimp only at H
 by_cases c5 : t643 = true
 rotate_left
 ·replace c5 := Bool.eq_false_iff.mpr c5
  subst c5
  replace H : (some (false, false)) = some (r1, r2) := by rw [if_neg (show ¬ (false = true) by decide)] at H; exact H
  simp only [Option.some.injEq, Prod.mk.injEq] at H
  obtain ⟨rfl, rfl⟩ := H
  go_enter Try.func14, Try.ntmps14
  go_wp2_with (first | ((with_reducible refine gate_dst (N := 3) rfl ?_); refine box_event ?hg (N := 3) ?hd (cs := #[.slice A0_0 l0_0.length c0_0]) (t := 26) ?hr ?_; (case hd | hg => rfl); (case hr => go_simp); intro gb642 hg w13 hbox hb; have BK642 := Aside0.mk (hbox); have GW642 := gsb (w := w) hg (bel HB); have GE642 := gsb (w := w) hg (bel HB); replace HB := Aside0.mk (below_step (bel HB) hb); clear hb hbox hg; obtain ⟨_, _⟩ := bf1 BK642) | ((with_reducible refine gate_callee (f := 20) rfl ?_); refine goesL_ (some 11) rfl rfl Try.func20 (by kernel_rfl) rfl #[.agg #[.slice A0_0 l0_0.length c0_0], .slice A1 l1.length c1, .int .i64 a2] rfl gmp ?_; (with_reducible refine (impl_areYard.calls k _ _ l0_0 _ _ l1 a2 false _ ?side1 ?side2 ?side3 ?side4 A4.out).mono ?_); (case side1 => exact cdl (Kd.C_below HR0_0.out HB.out)); (case side2 => exact HC0_0.out); (case side3 => exact cdl (Kd.C_below HR1.out HB.out)); (case side4 => exact HC1.out); rintro e w15 ⟨rfl, hb⟩; refine ⟨_, rfl, ?_⟩; replace BK642 := bkb BK642 hb; replace HB := Aside0.mk (below_step (bel1 HB GE642) hb); (try clear hb)))
  go_ret2
  exact ⟨by rfl , bel1 HB GE642⟩
 subst c5
 replace H : ((impl_yardFindings.f k l0_0 l1 a2).bind fun t644 => (some (((t644.length : Int) == 0), true))) = some (r1, r2) := by rw [if_pos rfl] at H; exact H
 obtain ⟨t644, A6, H⟩ := bnd H
 try dsimp only at H
 simp only [Option.some.injEq, Prod.mk.injEq] at H
 obtain ⟨rfl, rfl⟩ := H
 go_enter Try.func14, Try.ntmps14
 go_wp2_with (first | ((with_reducible refine gate_dst (N := 3) rfl ?_); refine box_event ?hg (N := 3) ?hd (cs := #[.slice A0_0 l0_0.length c0_0]) (t := 26) ?hr ?_; (case hd | hg => rfl); (case hr => go_simp); intro gb642 hg w7 hbox hb; have BK642 := Aside0.mk (hbox); have GW642 := gsb (w := w) hg (bel HB); have GE642 := gsb (w := w) hg (bel HB); replace HB := Aside0.mk (below_step (bel HB) hb); clear hb hbox hg; obtain ⟨_, _⟩ := bf1 BK642) | ((with_reducible refine gate_callee (f := 20) rfl ?_); refine goesL_ (some 11) rfl rfl Try.func20 (by kernel_rfl) rfl #[.agg #[.slice A0_0 l0_0.length c0_0], .slice A1 l1.length c1, .int .i64 a2] rfl gmp ?_; (with_reducible refine (impl_areYard.calls k _ _ l0_0 _ _ l1 a2 true _ ?side1 ?side2 ?side3 ?side4 A4.out).mono ?_); (case side1 => exact cdl (Kd.C_below HR0_0.out HB.out)); (case side2 => exact HC0_0.out); (case side3 => exact cdl (Kd.C_below HR1.out HB.out)); (case side4 => exact HC1.out); rintro e w9 ⟨rfl, hb⟩; refine ⟨_, rfl, ?_⟩; replace BK642 := bkb BK642 hb; replace HB := Aside0.mk (below_step (bel1 HB GE642) hb); (try clear hb); obtain ⟨_, _⟩ := bf1 BK642) | ((with_reducible refine gate_callee (f := 28) rfl ?_); refine goesL_ (some 16) rfl rfl Try.func28 (by kernel_rfl) rfl #[.agg #[.slice A0_0 l0_0.length c0_0], .slice A1 l1.length c1, .int .i64 a2] rfl gmp ?_; (with_reducible refine (impl_yardFindings.calls k _ _ l0_0 _ _ l1 a2 t644 _ ?side1 ?side2 ?side3 ?side4 A6.out).mono ?_); (case side1 => exact cdl (Kd.C_below HR0_0.out HB.out)); (case side2 => exact HC0_0.out); (case side3 => exact cdl (Kd.C_below HR1.out HB.out)); (case side4 => exact HC1.out); rintro e w11 ⟨v645, rfl, ho0, hb⟩; refine ⟨_, rfl, ?_⟩; have HO646 := Aside0.mk (Kd.R_lower ho0 (below_size (bel1 HB GE642))); replace BK642 := bkb BK642 hb; replace HB := Aside0.mk (below_step (bel1 HB GE642) hb); (try clear hb); (try clear ho0); obtain ⟨Ao12, co12, eo12⟩ := Kd.R_slice HO646.out; subst eo12))
 go_ret2
 exact ⟨by rfl , bel1 HB GE642⟩
end Go.Proofs.Ytemildnlfjijmaa.P
