-- Written by a program of this session over the translation (a variant of the printer, see wip/gen); Lean checks it.
import Derived.Test.YtemildnlfjijmaaVC
import Derived.Test.YtemildnlfjijmaaPx0
import Derived.Test.YtemildnlfjijmaaPx1
import Derived.Test.YtemildnlfjijmaaPx3
import Derived.Test.YtemildnlfjijmaaPx18
namespace Go.Proofs.Ytemildnlfjijmaa.P
open Go.RowKit Go.Proofs.YtemildnlfjijmaaW.PrintWords Go.Proofs.YtemildnlfjijmaaW.PrintLast Go.Proofs.YtemildnlfjijmaaW.PrintMore
attribute [local go_sem] Go.Proofs.Ytemildnlfjijmaa.V.isSome_setCell max2_int min2_int max_two min_two max_three min_three max_four min_four
set_option linter.unusedVariables false
set_option linter.unusedSimpArgs false
/-! ### spec_l2List: function 42 -/
mutual
def spec_l2List.l0 : Nat → List (S71) → Int → Option (Bool)
 | 0, _, _ => none
 | k + 1, x0, x3 => if x3 < (x0.length : Int) then (spec_l2List.j1 k x0 x3 (decide (x3 ≤ 12))) else (spec_l2List.j1 k x0 x3 false)
def spec_l2List.j1 : Nat → List (S71) → Int → Bool → Option (Bool)
 | 0, _, _, _ => none
 | k + 1, x0, x3, x11 => if x11 = true then (if 0 ≤ x3 then (if x3 < (x0.length : Int) then ((spec_l2Good.f k ((rd_T71 x0 x3).f0) ((rd_T71 x0 x3).f1) ((rd_T71 x0 x3).f2) ((rd_T71 x0 x3).f3) ((rd_T71 x0 x3).f4)).bind fun t496 => (if t496 = true then ((spec_l2Find.f k x0 ((rd_T71 x0 x3).f0)).bind fun t498 => (if t498 = x3 then (spec_l2List.l0 k x0 (wrap64 (x3 + 1))) else (some false))) else (some false))) else (none)) else (none)) else (some (decide ((x0.length : Int) ≤ 12)))
end
def spec_l2List.f (k : Nat) (l0 : List (S71)) : Option (Bool) := spec_l2List.l0 k l0 0
set_option maxHeartbeats 8000000 in
set_option maxRecDepth 100000 in
theorem spec_l2List.calls (k : Nat) (A0 : Option Addr) (c0 : Nat) (l0 : List (S71)) (r : Bool) (w : World) (hr0 : Kd.C k71 w A0 l0.length l0) (hc0 : l0.length ≤ c0) (h : spec_l2List.f k l0 = some r) :
  Calls Try.prog 42 #[.slice A0 l0.length c0] w fun e w' => e = .returned (.bool r) ∧ Below w.heap.size w w' := by
 have hu71 := Try.underlying71
 have HR0 := Aside0.mk hr0
 have HC0 := Aside0.mk hc0
 clear hr0 hc0
 have HB := Aside0.mk (Below.refl w.heap.size w)
 have H : (spec_l2List.l0 k l0 0) = some r := h
 clear h
 have H' := Aside0.mk H
 clear H
 go_enter Try.func42, Try.ntmps42
 go_wp2
 go_loopg [3] k (fun kq v3 w' => ∃ (x3_1 : Int), v3 = .int .i64 x3_1 ∧ Aside0 (spec_l2List.l0 kq l0 x3_1 = some r) ∧ Aside0 (kq ≤ k) ∧ Aside0 (Below w.heap.size w w'))
 case atStart => exact ⟨(0), (by rfl ), H', ⟨Nat.le_refl _⟩, ⟨bel HB⟩⟩
 clear H'
 obtain ⟨x3_1, rfl, HA, HK1, HB⟩ := hrel
 cases gk with
 | zero => exact absurd HA.out (by simp [spec_l2List.l0])
 | succ k1 =>
  have H := HA.out
  clear HA
  simp only [spec_l2List.l0] at H
  have HC2 := Aside0.mk H
  clear H
  go_upto_region 2 with (fail)
  go_cut [11] (fun v11 wc => ∃ (kq : Nat) (x11_1 : Bool), v11 = .bool x11_1 ∧ Aside0 (spec_l2List.j1 kq l0 x3_1 x11_1 = some r) ∧ Aside0 (kq ≤ k1) ∧ Aside0 (Below w.heap.size w wc))
  case first =>
   have H := HC2.out
   clear HC2
   by_cases c3 : x3_1 < (l0.length : Int)
   rotate_left
   ·rw [if_neg c3] at H
    have c3b0 : decide (x3_1 < (l0.length : Int)) = false := decide_eq_false c3
    clear c3
    have H' := Aside0.mk H
    clear H
    go_wp2
    go_meet
    case rel => exact ⟨_, (false), (by rfl ), H', ⟨by have := HK1.out; omega ⟩, ⟨bel HB⟩⟩
   rw [if_pos c3] at H
   have c3b0 : decide (x3_1 < (l0.length : Int)) = true := decide_eq_true c3
   clear c3
   have H' := Aside0.mk H
   clear H
   go_wp2
   go_meet
   case rel => exact ⟨_, (decide (x3_1 ≤ 12)), (by rfl ), H', ⟨by have := HK1.out; omega ⟩, ⟨bel HB⟩⟩
  clear HC2
  obtain ⟨kq, x11_1, rfl, HA, HJ1, HB⟩ := hcut
  cases kq with
  | zero => exact absurd HA.out (by simp [spec_l2List.j1])
  | succ kj1 =>
   have H := HA.out
   clear HA
   simp only [spec_l2List.j1] at H
   by_cases c4 : x11_1 = true
   rotate_left
   ·replace c4 := Bool.eq_false_iff.mpr c4
    subst c4
    replace H : (some (decide ((l0.length : Int) ≤ 12))) = some r := by rw [if_neg (show ¬ (false = true) by decide)] at H; exact H
    obtain rfl := Option.some.inj H
    go_wp2
    go_ret
    exact ⟨by rfl , bel HB⟩
   subst c4
   replace H : (if 0 ≤ x3_1 then (if x3_1 < (l0.length : Int) then ((spec_l2Good.f kj1 ((rd_T71 l0 x3_1).f0) ((rd_T71 l0 x3_1).f1) ((rd_T71 l0 x3_1).f2) ((rd_T71 l0 x3_1).f3) ((rd_T71 l0 x3_1).f4)).bind fun t496 => (if t496 = true then ((spec_l2Find.f kj1 l0 ((rd_T71 l0 x3_1).f0)).bind fun t498 => (if t498 = x3_1 then (spec_l2List.l0 kj1 l0 (wrap64 (x3_1 + 1))) else (some false))) else (some false))) else (none)) else (none)) = some r := by rw [if_pos rfl] at H; exact H
   by_cases c5 : 0 ≤ x3_1
   rotate_left
   ·rw [if_neg c5] at H
    exact absurd H (by simp)
   rw [if_pos c5] at H
   have c5b0 : decide (0 ≤ x3_1) = true := decide_eq_true c5
   clear c5
   by_cases c6 : x3_1 < (l0.length : Int)
   rotate_left
   ·rw [if_neg c6] at H
    exact absurd H (by simp)
   rw [if_pos c6] at H
   have c6b0 : decide (x3_1 < (l0.length : Int)) = true := decide_eq_true c6
   clear c6
   obtain ⟨t496, A7, H⟩ := bnd H
   try dsimp only at H
   by_cases c8 : t496 = true
   rotate_left
   ·replace c8 := Bool.eq_false_iff.mpr c8
    subst c8
    replace H : (some false) = some r := by rw [if_neg (show ¬ (false = true) by decide)] at H; exact H
    obtain rfl := Option.some.inj H
    have p495 : 0 ≤ (x3_1 : Int) := oda
    have q495 : x3_1 < (l0.length : Int) := oda
    obtain ⟨ad495, e495, hx495_0, hx495_1, hx495_2, hx495_3, hx495_4⟩ := at_T71 HR0.out x3_1 p495 q495
    cases e495
    replace hx495_0 := cel HB hx495_0
    replace hx495_1 := cel HB hx495_1
    replace hx495_2 := cel HB hx495_2
    replace hx495_3 := cel HB hx495_3
    replace hx495_4 := cel HB hx495_4
    replace p495 := eq_true p495
    replace q495 := eq_true q495
    go_wp2_with (first | ((with_reducible refine gate_callee (f := 55) rfl ?_); refine goesL_ (some 18) rfl rfl Try.func55 (by kernel_rfl) rfl #[.agg #[.string ((rd_T71 l0 x3_1).f0), .int .i64 ((rd_T71 l0 x3_1).f1), .int .i64 ((rd_T71 l0 x3_1).f2), .int .i64 ((rd_T71 l0 x3_1).f3), .int .i64 ((rd_T71 l0 x3_1).f4)]] rfl gmp ?_; (with_reducible refine (spec_l2Good.calls kj1 ((rd_T71 l0 x3_1).f0) ((rd_T71 l0 x3_1).f1) ((rd_T71 l0 x3_1).f2) ((rd_T71 l0 x3_1).f3) ((rd_T71 l0 x3_1).f4) false _ A7.out).mono ?_); rintro e w13 ⟨rfl, hb⟩; refine ⟨_, rfl, ?_⟩; replace HB := Aside0.mk (below_step (bel HB) hb); (try clear hb)))
    go_ret
    exact ⟨by rfl , bel HB⟩
   subst c8
   replace H : ((spec_l2Find.f kj1 l0 ((rd_T71 l0 x3_1).f0)).bind fun t498 => (if t498 = x3_1 then (spec_l2List.l0 kj1 l0 (wrap64 (x3_1 + 1))) else (some false))) = some r := by rw [if_pos rfl] at H; exact H
   obtain ⟨t498, A9, H⟩ := bnd H
   try dsimp only at H
   by_cases c10 : t498 = x3_1
   rotate_left
   ·rw [if_neg c10] at H
    have c10b0 : (t498 == x3_1) = false := beq_eq_false_iff_ne.mpr c10
    have c10b1 : (t498 != x3_1) = true := bne_iff_ne.mpr c10
    obtain rfl := Option.some.inj H
    have p495 : 0 ≤ (x3_1 : Int) := oda
    have q495 : x3_1 < (l0.length : Int) := oda
    obtain ⟨ad495, e495, hx495_0, hx495_1, hx495_2, hx495_3, hx495_4⟩ := at_T71 HR0.out x3_1 p495 q495
    cases e495
    replace hx495_0 := cel HB hx495_0
    replace hx495_1 := cel HB hx495_1
    replace hx495_2 := cel HB hx495_2
    replace hx495_3 := cel HB hx495_3
    replace hx495_4 := cel HB hx495_4
    replace p495 := eq_true p495
    replace q495 := eq_true q495
    go_wp2_with (first | ((with_reducible refine gate_callee (f := 55) rfl ?_); refine goesL_ (some 18) rfl rfl Try.func55 (by kernel_rfl) rfl #[.agg #[.string ((rd_T71 l0 x3_1).f0), .int .i64 ((rd_T71 l0 x3_1).f1), .int .i64 ((rd_T71 l0 x3_1).f2), .int .i64 ((rd_T71 l0 x3_1).f3), .int .i64 ((rd_T71 l0 x3_1).f4)]] rfl gmp ?_; (with_reducible refine (spec_l2Good.calls kj1 ((rd_T71 l0 x3_1).f0) ((rd_T71 l0 x3_1).f1) ((rd_T71 l0 x3_1).f2) ((rd_T71 l0 x3_1).f3) ((rd_T71 l0 x3_1).f4) true _ A7.out).mono ?_); rintro e w12 ⟨rfl, hb⟩; refine ⟨_, rfl, ?_⟩; replace HB := Aside0.mk (below_step (bel HB) hb); (try clear hb); have p497 : 0 ≤ (x3_1 : Int) := oda; have q497 : x3_1 < (l0.length : Int) := oda; obtain ⟨ad497, e497, hx497_0, hx497_1, hx497_2, hx497_3, hx497_4⟩ := at_T71 HR0.out x3_1 p497 q497; obtain rfl : ad495 = ad497 := (by injection e497); replace hx497_0 := cel HB hx497_0; replace hx497_1 := cel HB hx497_1; replace hx497_2 := cel HB hx497_2; replace hx497_3 := cel HB hx497_3; replace hx497_4 := cel HB hx497_4; replace p497 := eq_true p497; replace q497 := eq_true q497) | (go_at_call 48; (with_reducible refine (spec_l2Find.calls kj1 _ _ l0 ((rd_T71 l0 x3_1).f0) t498 _ ?side1 ?side2 A9.out).mono ?_); (case side1 => exact cdl (Kd.C_below HR0.out HB.out)); (case side2 => exact HC0.out); rintro e w' ⟨rfl, ⟨nd, rfl⟩⟩))
    go_ret
    exact ⟨by rfl , bel HB⟩
   rw [if_pos c10] at H
   have c10b0 : (t498 == x3_1) = true := beq_iff_eq.mpr c10
   have c10b1 : (t498 != x3_1) = false := bne_eq_false_iff_eq.mpr c10
   clear c10
   have H' := Aside0.mk H
   clear H
   have p495 : 0 ≤ (x3_1 : Int) := oda
   have q495 : x3_1 < (l0.length : Int) := oda
   obtain ⟨ad495, e495, hx495_0, hx495_1, hx495_2, hx495_3, hx495_4⟩ := at_T71 HR0.out x3_1 p495 q495
   cases e495
   replace hx495_0 := cel HB hx495_0
   replace hx495_1 := cel HB hx495_1
   replace hx495_2 := cel HB hx495_2
   replace hx495_3 := cel HB hx495_3
   replace hx495_4 := cel HB hx495_4
   replace p495 := eq_true p495
   replace q495 := eq_true q495
   go_wp2_with (first | ((with_reducible refine gate_callee (f := 55) rfl ?_); refine goesL_ (some 18) rfl rfl Try.func55 (by kernel_rfl) rfl #[.agg #[.string ((rd_T71 l0 x3_1).f0), .int .i64 ((rd_T71 l0 x3_1).f1), .int .i64 ((rd_T71 l0 x3_1).f2), .int .i64 ((rd_T71 l0 x3_1).f3), .int .i64 ((rd_T71 l0 x3_1).f4)]] rfl gmp ?_; (with_reducible refine (spec_l2Good.calls kj1 ((rd_T71 l0 x3_1).f0) ((rd_T71 l0 x3_1).f1) ((rd_T71 l0 x3_1).f2) ((rd_T71 l0 x3_1).f3) ((rd_T71 l0 x3_1).f4) true _ A7.out).mono ?_); rintro e w11 ⟨rfl, hb⟩; refine ⟨_, rfl, ?_⟩; replace HB := Aside0.mk (below_step (bel HB) hb); (try clear hb); have p497 : 0 ≤ (x3_1 : Int) := oda; have q497 : x3_1 < (l0.length : Int) := oda; obtain ⟨ad497, e497, hx497_0, hx497_1, hx497_2, hx497_3, hx497_4⟩ := at_T71 HR0.out x3_1 p497 q497; obtain rfl : ad495 = ad497 := (by injection e497); replace hx497_0 := cel HB hx497_0; replace hx497_1 := cel HB hx497_1; replace hx497_2 := cel HB hx497_2; replace hx497_3 := cel HB hx497_3; replace hx497_4 := cel HB hx497_4; replace p497 := eq_true p497; replace q497 := eq_true q497) | (go_at_call 48; (with_reducible refine (spec_l2Find.calls kj1 _ _ l0 ((rd_T71 l0 x3_1).f0) t498 _ ?side1 ?side2 A9.out).mono ?_); (case side1 => exact cdl (Kd.C_below HR0.out HB.out)); (case side2 => exact HC0.out); rintro e w' ⟨rfl, ⟨nd, rfl⟩⟩))
   go_roundg kj1
   case measure => have := HK1.out; have := HJ1.out; omega
   case rel => exact ⟨(wrap64 (x3_1 + 1)), (by rfl ), H', ⟨by have := HK1.out; have := HJ1.out; omega⟩, ⟨bel HB⟩⟩
/-! ### spec_l7Asked: function 24 -/
mutual
def spec_l7Asked.j0 : Nat → List (S71) → Bool → List (List Int) → Option (Bool)
 | 0, _, _, _ => none
 | k + 1, x1, x21, x500000 => if x21 = true then (some false) else (spec_l7Asked.l0 k x1 0 x500000)
def spec_l7Asked.l0 : Nat → List (S71) → Int → List (List Int) → Option (Bool)
 | 0, _, _, _ => none
 | k + 1, x1, x7, x500000 => if x7 < (x500000.length : Int) then (spec_l7Asked.l1 k x1 x7 0 x500000) else (some true)
def spec_l7Asked.l1 : Nat → List (S71) → Int → Int → List (List Int) → Option (Bool)
 | 0, _, _, _, _ => none
 | k + 1, x1, x7, x8, x500000 => if 0 ≤ x7 then (if x7 < (x500000.length : Int) then (if x8 < ((rd_L4 x500000 x7).length : Int) then (if 0 ≤ x8 then (if (rd (rd_L4 x500000 x7) x8) > (x1.length : Int) then (some false) else (spec_l7Asked.l1 k x1 x7 (wrap64 (x8 + 1)) x500000)) else (none)) else (spec_l7Asked.l0 k x1 (wrap64 (x7 + 1)) x500000)) else (none)) else (none)
end
def spec_l7Asked.f (k : Nat) (l0_0 : List (List Int)) (l1 : List (S71)) (a2 : Int) : Option (Bool) := (spec_l5Good.f k l0_0).bind fun t500 => (if t500 = true then ((spec_l2List.f k l1).bind fun t501 => (if t501 = true then ((spec_l1In.f a2 0 6).bind fun t502 => (spec_l7Asked.j0 k l1 (!t502) l0_0)) else (spec_l7Asked.j0 k l1 true l0_0))) else (spec_l7Asked.j0 k l1 true l0_0))
set_option maxHeartbeats 8000000 in
set_option maxRecDepth 100000 in
theorem spec_l7Asked.calls (k : Nat) (A0_0 : Option Addr) (c0_0 : Nat) (l0_0 : List (List Int)) (A1 : Option Addr) (c1 : Nat) (l1 : List (S71)) (a2 : Int) (r : Bool) (w : World) (hr0_0 : Kd.C (Kd.slice 3 (Kd.int .i64)) w A0_0 l0_0.length l0_0) (hc0_0 : l0_0.length ≤ c0_0) (hr1 : Kd.C k71 w A1 l1.length l1) (hc1 : l1.length ≤ c1) (h : spec_l7Asked.f k l0_0 l1 a2 = some r) :
  Calls Try.prog 24 #[.agg #[.slice A0_0 l0_0.length c0_0], .slice A1 l1.length c1, .int .i64 a2] w fun e w' => e = .returned (.bool r) ∧ Below w.heap.size w w' := by
 have hu26 := Try.underlying26
 have HR0_0 := Aside0.mk hr0_0
 have HC0_0 := Aside0.mk hc0_0
 clear hr0_0 hc0_0
 have HR1 := Aside0.mk hr1
 have HC1 := Aside0.mk hc1
 clear hr1 hc1
 have HB := Aside0.mk (Below.refl w.heap.size w)
 have H : ((spec_l5Good.f k l0_0).bind fun t500 => (if t500 = true then ((spec_l2List.f k l1).bind fun t501 => (if t501 = true then ((spec_l1In.f a2 0 6).bind fun t502 => (spec_l7Asked.j0 k l1 (!t502) l0_0)) else (spec_l7Asked.j0 k l1 true l0_0))) else (spec_l7Asked.j0 k l1 true l0_0))) = some r := h
 clear h
 have HC4 := Aside0.mk H
 clear H
 go_enter Try.func24, Try.ntmps24
 go_upto_region 1 with (first | ((with_reducible refine gate_dst (N := 3) rfl ?_); refine box_event ?hg (N := 3) ?hd (cs := #[.slice A0_0 l0_0.length c0_0]) (t := 26) ?hr ?_; (case hd | hg => rfl); (case hr => go_simp); intro gb499 hg w5 hbox hb; have BK499 := Aside0.mk (hbox); have GW499 := gsb (w := w) hg (bel HB); have GE499 := gsb (w := w) hg (bel HB); replace HB := Aside0.mk (below_step (bel HB) hb); clear hb hbox hg))
 go_cut [21] (fun v21 wc => ∃ (kq : Nat) (x21_3 : Bool), v21 = .bool x21_3 ∧ Aside0 (spec_l7Asked.j0 kq l1 x21_3 l0_0 = some r) ∧ Aside0 (kq ≤ k) ∧ Aside0 (wc.heap[gb499]? = some (.cells #[(.slice A0_0 l0_0.length c0_0)] 26 (0, 0))) ∧ Aside0 (Below w.heap.size w wc))
 case first =>
  have H := HC4.out
  clear HC4
  obtain ⟨t500, A6, H⟩ := bnd H
  try dsimp only at H
  by_cases c7 : t500 = true
  rotate_left
  ·replace c7 := Bool.eq_false_iff.mpr c7
   subst c7
   replace H : (spec_l7Asked.j0 k l1 true l0_0) = some r := by rw [if_neg (show ¬ (false = true) by decide)] at H; exact H
   have H' := Aside0.mk H
   clear H
   have hcz17_0 := bc BK499 0
   have hfz17_0 := blk_frozen BK499.out 0
   go_wp2_with (first | ((with_reducible refine gate_callee (f := 41) rfl ?_); refine goesL_ (some 10) rfl rfl Try.func41 (by kernel_rfl) rfl #[.agg #[.slice A0_0 l0_0.length c0_0]] rfl gmp ?_; (with_reducible refine (spec_l5Good.calls k _ _ l0_0 false _ ?side1 ?side2 A6.out).mono ?_); (case side1 => exact cdl (Kd.C_below HR0_0.out HB.out)); (case side2 => exact HC0_0.out); rintro e w18 ⟨rfl, hb⟩; refine ⟨_, rfl, ?_⟩; replace BK499 := bkb BK499 hb; replace HB := Aside0.mk (below_step (bel1 HB GE499) hb); (try clear hb)))
   go_meet
   case rel => exact ⟨_, (true), (by rfl ), H', ⟨by omega ⟩, ⟨bkl BK499⟩, ⟨bel1 HB GE499⟩⟩
  subst c7
  replace H : ((spec_l2List.f k l1).bind fun t501 => (if t501 = true then ((spec_l1In.f a2 0 6).bind fun t502 => (spec_l7Asked.j0 k l1 (!t502) l0_0)) else (spec_l7Asked.j0 k l1 true l0_0))) = some r := by rw [if_pos rfl] at H; exact H
  obtain ⟨t501, A8, H⟩ := bnd H
  try dsimp only at H
  by_cases c9 : t501 = true
  rotate_left
  ·replace c9 := Bool.eq_false_iff.mpr c9
   subst c9
   replace H : (spec_l7Asked.j0 k l1 true l0_0) = some r := by rw [if_neg (show ¬ (false = true) by decide)] at H; exact H
   have H' := Aside0.mk H
   clear H
   have hcz14_0 := bc BK499 0
   have hfz14_0 := blk_frozen BK499.out 0
   go_wp2_with (first | ((with_reducible refine gate_callee (f := 41) rfl ?_); refine goesL_ (some 10) rfl rfl Try.func41 (by kernel_rfl) rfl #[.agg #[.slice A0_0 l0_0.length c0_0]] rfl gmp ?_; (with_reducible refine (spec_l5Good.calls k _ _ l0_0 true _ ?side1 ?side2 A6.out).mono ?_); (case side1 => exact cdl (Kd.C_below HR0_0.out HB.out)); (case side2 => exact HC0_0.out); rintro e w15 ⟨rfl, hb⟩; refine ⟨_, rfl, ?_⟩; replace BK499 := bkb BK499 hb; replace HB := Aside0.mk (below_step (bel1 HB GE499) hb); (try clear hb)) | (go_at_call 42; (with_reducible refine (spec_l2List.calls k _ _ l1 false _ ?side1 ?side2 A8.out).mono ?_); (case side1 => exact cdl (Kd.C_below HR1.out HB.out)); (case side2 => exact HC1.out); rintro e w16 ⟨rfl, hb⟩; replace BK499 := bkb BK499 hb; replace HB := Aside0.mk (below_step (bel1 HB GE499) hb); (try clear hb)))
   go_meet
   case rel => exact ⟨_, (true), (by rfl ), H', ⟨by omega ⟩, ⟨bkl BK499⟩, ⟨bel1 HB GE499⟩⟩
  subst c9
  replace H : ((spec_l1In.f a2 0 6).bind fun t502 => (spec_l7Asked.j0 k l1 (!t502) l0_0)) = some r := by rw [if_pos rfl] at H; exact H
  obtain ⟨t502, A10, H⟩ := bnd H
  try dsimp only at H
  have H' := Aside0.mk H
  clear H
  have hcz11_0 := bc BK499 0
  have hfz11_0 := blk_frozen BK499.out 0
  go_wp2_with (first | ((with_reducible refine gate_callee (f := 41) rfl ?_); refine goesL_ (some 10) rfl rfl Try.func41 (by kernel_rfl) rfl #[.agg #[.slice A0_0 l0_0.length c0_0]] rfl gmp ?_; (with_reducible refine (spec_l5Good.calls k _ _ l0_0 true _ ?side1 ?side2 A6.out).mono ?_); (case side1 => exact cdl (Kd.C_below HR0_0.out HB.out)); (case side2 => exact HC0_0.out); rintro e w12 ⟨rfl, hb⟩; refine ⟨_, rfl, ?_⟩; replace BK499 := bkb BK499 hb; replace HB := Aside0.mk (below_step (bel1 HB GE499) hb); (try clear hb)) | (go_at_call 42; (with_reducible refine (spec_l2List.calls k _ _ l1 true _ ?side1 ?side2 A8.out).mono ?_); (case side1 => exact cdl (Kd.C_below HR1.out HB.out)); (case side2 => exact HC1.out); rintro e w13 ⟨rfl, hb⟩; replace BK499 := bkb BK499 hb; replace HB := Aside0.mk (below_step (bel1 HB GE499) hb); (try clear hb)) | (go_at_call 25; (with_reducible refine (spec_l1In.calls a2 0 6 t502 _ A10.out).mono ?_); rintro e w' ⟨rfl, ⟨nd, rfl⟩⟩))
  go_meet
  case rel => exact ⟨_, (!t502), (by rfl ), H', ⟨by omega ⟩, ⟨bkl BK499⟩, ⟨bel1 HB GE499⟩⟩
 clear HC4
 obtain ⟨kq, x21_3, rfl, HA, HJ3, BK499, HB⟩ := hcut
 cases kq with
 | zero => exact absurd HA.out (by simp [spec_l7Asked.j0])
 | succ kj3 =>
  have H := HA.out
  clear HA
  simp only [spec_l7Asked.j0] at H
  by_cases c19 : x21_3 = true
  ·subst c19
   replace H : (some false) = some r := by rw [if_pos rfl] at H; exact H
   obtain rfl := Option.some.inj H
   go_wp2
   go_ret
   exact ⟨by rfl , bel1 HB GE499⟩
  replace c19 := Bool.eq_false_iff.mpr c19
  subst c19
  replace H : (spec_l7Asked.l0 kj3 l1 0 l0_0) = some r := by rw [if_neg (show ¬ (false = true) by decide)] at H; exact H
  have H' := Aside0.mk H
  clear H
  go_wp2
  go_loopg [7] kj3 (fun kq v7 w' => ∃ (x7_2 : Int), v7 = .int .i64 x7_2 ∧ Aside0 (spec_l7Asked.l0 kq l1 x7_2 l0_0 = some r) ∧ Aside0 (kq ≤ kj3) ∧ Aside0 (w'.heap[gb499]? = some (.cells #[(.slice A0_0 l0_0.length c0_0)] 26 (0, 0))) ∧ Aside0 (Below w.heap.size w w'))
  case atStart => exact ⟨(0), (by rfl ), H', ⟨Nat.le_refl _⟩, ⟨bkl BK499⟩, ⟨bel1 HB GE499⟩⟩
  clear H'
  obtain ⟨x7_2, rfl, HA, HK2, BK499, HB⟩ := hrel
  cases gk with
  | zero => exact absurd HA.out (by simp [spec_l7Asked.l0])
  | succ k2 =>
   have H := HA.out
   clear HA
   simp only [spec_l7Asked.l0] at H
   by_cases c20 : x7_2 < (l0_0.length : Int)
   rotate_left
   ·rw [if_neg c20] at H
    have c20b0 : decide (x7_2 < (l0_0.length : Int)) = false := decide_eq_false c20
    clear c20
    obtain rfl := Option.some.inj H
    have hcz30_0 := bc BK499 0
    have hfz30_0 := blk_frozen BK499.out 0
    go_wp2
    go_ret
    exact ⟨by rfl , bel1 HB GE499⟩
   rw [if_pos c20] at H
   have c20b0 : decide (x7_2 < (l0_0.length : Int)) = true := decide_eq_true c20
   clear c20
   have H' := Aside0.mk H
   clear H
   have hcz21_0 := bc BK499 0
   have hfz21_0 := blk_frozen BK499.out 0
   go_wp2
   go_loopg [8] k2 (fun kq v8 w' => ∃ (x8_3 : Int), v8 = .int .i64 x8_3 ∧ Aside0 (spec_l7Asked.l1 kq l1 x7_2 x8_3 l0_0 = some r) ∧ Aside0 (kq ≤ k2) ∧ Aside0 (w'.heap[gb499]? = some (.cells #[(.slice A0_0 l0_0.length c0_0)] 26 (0, 0))) ∧ Aside0 (Below w.heap.size w w'))
   case atStart => exact ⟨(0), (by rfl ), H', ⟨Nat.le_refl _⟩, ⟨bkl BK499⟩, ⟨bel1 HB GE499⟩⟩
   clear H'
   try clear c20b0
   try clear hcz21_0
   try clear hfz21_0
   obtain ⟨x8_3, rfl, HA, HK3, BK499, HB⟩ := hrel
   cases gk with
   | zero => exact absurd HA.out (by simp [spec_l7Asked.l1])
   | succ k3 =>
    have H := HA.out
    clear HA
    simp only [spec_l7Asked.l1] at H
    by_cases c22 : 0 ≤ x7_2
    rotate_left
    ·rw [if_neg c22] at H
     exact absurd H (by simp)
    rw [if_pos c22] at H
    have c22b0 : decide (0 ≤ x7_2) = true := decide_eq_true c22
    clear c22
    by_cases c23 : x7_2 < (l0_0.length : Int)
    rotate_left
    ·rw [if_neg c23] at H
     exact absurd H (by simp)
    rw [if_pos c23] at H
    have c23b0 : decide (x7_2 < (l0_0.length : Int)) = true := decide_eq_true c23
    clear c23
    by_cases c24 : x8_3 < ((rd_L4 l0_0 x7_2).length : Int)
    rotate_left
    ·rw [if_neg c24] at H
     have c24b0 : decide (x8_3 < ((rd_L4 l0_0 x7_2).length : Int)) = false := decide_eq_false c24
     clear c24
     have H' := Aside0.mk H
     clear H
     have hcz29_0 := bc BK499 0
     have hfz29_0 := blk_frozen BK499.out 0
     have p503 : 0 ≤ (x7_2 : Int) := oda
     have q503 : x7_2 < (l0_0.length : Int) := oda
     obtain ⟨ad503, A503_0, c503_0, e503, hx503_0, hl503_0, hi503_0⟩ := at_L4 HR0_0.out x7_2 p503 q503
     cases e503
     replace hx503_0 := cel HB hx503_0
     have HR503_0 := Aside0.mk hi503_0
     have HC503_0 := Aside0.mk hl503_0
     clear hi503_0 hl503_0
     replace p503 := eq_true p503
     replace q503 := eq_true q503
     go_wp2
     go_roundg k3
     case measure => have := HJ3.out; have := HK2.out; have := HK3.out; omega
     case rel => exact ⟨(wrap64 (x7_2 + 1)), (by rfl ), H', ⟨by have := HJ3.out; have := HK2.out; have := HK3.out; omega⟩, ⟨bkl BK499⟩, ⟨bel1 HB GE499⟩⟩
    rw [if_pos c24] at H
    have c24b0 : decide (x8_3 < ((rd_L4 l0_0 x7_2).length : Int)) = true := decide_eq_true c24
    clear c24
    by_cases c25 : 0 ≤ x8_3
    rotate_left
    ·rw [if_neg c25] at H
     exact absurd H (by simp)
    rw [if_pos c25] at H
    have c25b0 : decide (0 ≤ x8_3) = true := decide_eq_true c25
    clear c25
    by_cases c26 : (rd (rd_L4 l0_0 x7_2) x8_3) > (l1.length : Int)
    ·rw [if_pos c26] at H
     have c26b0 : decide ((l1.length : Int) < (rd (rd_L4 l0_0 x7_2) x8_3)) = true := decide_eq_true c26
     clear c26
     obtain rfl := Option.some.inj H
     have hcz27_0 := bc BK499 0
     have hfz27_0 := blk_frozen BK499.out 0
     have p503 : 0 ≤ (x7_2 : Int) := oda
     have q503 : x7_2 < (l0_0.length : Int) := oda
     obtain ⟨ad503, A503_0, c503_0, e503, hx503_0, hl503_0, hi503_0⟩ := at_L4 HR0_0.out x7_2 p503 q503
     cases e503
     replace hx503_0 := cel HB hx503_0
     have HR503_0 := Aside0.mk hi503_0
     have HC503_0 := Aside0.mk hl503_0
     clear hi503_0 hl503_0
     replace p503 := eq_true p503
     replace q503 := eq_true q503
     have p504 : 0 ≤ (x7_2 : Int) := oda
     have q504 : x7_2 < (l0_0.length : Int) := oda
     obtain ⟨ad504, A504_0, c504_0, e504, hx504_0, hl504_0, hi504_0⟩ := at_L4 HR0_0.out x7_2 p504 q504
     obtain rfl : ad503 = ad504 := (by injection e504)
     replace hx504_0 := cel HB hx504_0
     have HR504_0 := Aside0.mk hi504_0
     have HC504_0 := Aside0.mk hl504_0
     clear hi504_0 hl504_0
     replace p504 := eq_true p504
     replace q504 := eq_true q504
     have ea_ := Option.some.inj (hx503_0.symm.trans hx504_0)
     injection ea_ with ea_ en_ ec_
     subst ea_
     subst ec_
     clear en_
     have p505 : 0 ≤ (x8_3 : Int) := oda
     have q505 : x8_3 < ((rd_L4 l0_0 x7_2).length : Int) := oda
     obtain ⟨ad505, e505, hx505_0⟩ := Kd.at_int HR504_0.out x8_3 p505 q505
     cases e505
     replace hx505_0 := cel HB hx505_0
     replace p505 := eq_true p505
     replace q505 := eq_true q505
     go_wp2
     go_ret
     exact ⟨by rfl , bel1 HB GE499⟩
    rw [if_neg c26] at H
    have c26b0 : decide ((l1.length : Int) < (rd (rd_L4 l0_0 x7_2) x8_3)) = false := decide_eq_false c26
    clear c26
    have H' := Aside0.mk H
    clear H
    have hcz28_0 := bc BK499 0
    have hfz28_0 := blk_frozen BK499.out 0
    have p503 : 0 ≤ (x7_2 : Int) := oda
    have q503 : x7_2 < (l0_0.length : Int) := oda
    obtain ⟨ad503, A503_0, c503_0, e503, hx503_0, hl503_0, hi503_0⟩ := at_L4 HR0_0.out x7_2 p503 q503
    cases e503
    replace hx503_0 := cel HB hx503_0
    have HR503_0 := Aside0.mk hi503_0
    have HC503_0 := Aside0.mk hl503_0
    clear hi503_0 hl503_0
    replace p503 := eq_true p503
    replace q503 := eq_true q503
    have p504 : 0 ≤ (x7_2 : Int) := oda
    have q504 : x7_2 < (l0_0.length : Int) := oda
    obtain ⟨ad504, A504_0, c504_0, e504, hx504_0, hl504_0, hi504_0⟩ := at_L4 HR0_0.out x7_2 p504 q504
    obtain rfl : ad503 = ad504 := (by injection e504)
    replace hx504_0 := cel HB hx504_0
    have HR504_0 := Aside0.mk hi504_0
    have HC504_0 := Aside0.mk hl504_0
    clear hi504_0 hl504_0
    replace p504 := eq_true p504
    replace q504 := eq_true q504
    have ea_ := Option.some.inj (hx503_0.symm.trans hx504_0)
    injection ea_ with ea_ en_ ec_
    subst ea_
    subst ec_
    clear en_
    have p505 : 0 ≤ (x8_3 : Int) := oda
    have q505 : x8_3 < ((rd_L4 l0_0 x7_2).length : Int) := oda
    obtain ⟨ad505, e505, hx505_0⟩ := Kd.at_int HR504_0.out x8_3 p505 q505
    cases e505
    replace hx505_0 := cel HB hx505_0
    replace p505 := eq_true p505
    replace q505 := eq_true q505
    go_wp2
    go_roundg k3
    case measure => have := HJ3.out; have := HK2.out; have := HK3.out; omega
    case rel => exact ⟨(wrap64 (x8_3 + 1)), (by rfl ), H', ⟨by have := HJ3.out; have := HK2.out; have := HK3.out; omega⟩, ⟨bkl BK499⟩, ⟨bel1 HB GE499⟩⟩
/-! ### spec_l7Put: function 26 -/
def spec_l7Put.f (k : Nat) (l0_0 : List (List Int)) (a1 : Int) (a2 : Int) : Option ((List (List Int))) := (spec_l5Own.f k l0_0).bind fun t508 => (if 0 ≤ a1 then (if a1 < (t508.length : Int) then (if (rd_L4 t508 a1).length < 17592186044416 then (some (t508.set (a1 : Int).toNat ((rd_L4 t508 a1) ++ [a2]))) else (none)) else (none)) else (none))
def spec_l7Put.T2 : Bool × List (List Nat × List Nat) := (true, [([], []), ([0], [0]), ([], []), ([], []), ([3], [3]), ([], []), ([4, 5], [4, 5]), ([6], [6]), ([], []), ([8], [8]), ([7, 9], [7, 9]), ([1, 2, 0, 1, 2, 3, 4, 5, 6, 7, 8, 9, 10], [1, 2]), ([11, 10, 10, 0, 1, 2, 3, 4, 5, 6, 7, 8, 9, 10], [10, 11])])
def spec_l7Put.B2 : List Nat := [0, 1, 0, 0, 8, 0, 56, 120, 0, 256, 1016, 2047, 4095]
theorem spec_l7Put.tab2 : rtab .any (opsOf Try.f26 2) = spec_l7Put.T2 := by kernel_rfl
theorem spec_l7Put.bits2 : waitsOk spec_l7Put.T2.2 spec_l7Put.B2 = true := by kernel_rfl
set_option maxHeartbeats 8000000 in
set_option maxRecDepth 100000 in
theorem spec_l7Put.calls (k : Nat) (A0_0 : Option Addr) (c0_0 : Nat) (l0_0 : List (List Int)) (a1 : Int) (a2 : Int) (r : List (List Int)) (w : World) (hr0_0 : Kd.C (Kd.slice 3 (Kd.int .i64)) w A0_0 l0_0.length l0_0) (hc0_0 : l0_0.length ≤ c0_0) (h : spec_l7Put.f k l0_0 a1 a2 = some r) :
  Calls Try.prog 26 #[.agg #[.slice A0_0 l0_0.length c0_0], .int .i64 a1, .int .i64 a2] w fun e w' => ∃ v0_ : Value, e = .returned (.agg #[v0_]) ∧ Kd.S (Kd.slice 3 (Kd.int .i64)) 30 w' w.heap.size (fun _ => True) v0_ r ∧ Below w.heap.size w w' := by
 have hu26 := Try.underlying26
 have HR0_0 := Aside0.mk hr0_0
 have HC0_0 := Aside0.mk hc0_0
 clear hr0_0 hc0_0
 have HB := Aside0.mk (Below.refl w.heap.size w)
 have H : ((spec_l5Own.f k l0_0).bind fun t508 => (if 0 ≤ a1 then (if a1 < (t508.length : Int) then (if (rd_L4 t508 a1).length < 17592186044416 then (some (t508.set (a1 : Int).toNat ((rd_L4 t508 a1) ++ [a2]))) else (none)) else (none)) else (none))) = some r := h
 clear h
 obtain ⟨t508, A4, H⟩ := bnd H
 try dsimp only at H
 by_cases c5 : 0 ≤ a1
 rotate_left
 ·rw [if_neg c5] at H
  exact absurd H (by simp)
 rw [if_pos c5] at H
 have c5b0 : decide (0 ≤ a1) = true := decide_eq_true c5
 clear c5
 by_cases c6 : a1 < (t508.length : Int)
 rotate_left
 ·rw [if_neg c6] at H
  exact absurd H (by simp)
 rw [if_pos c6] at H
 have c6b0 : decide (a1 < (t508.length : Int)) = true := decide_eq_true c6
 clear c6
 by_cases c7 : (rd_L4 t508 a1).length < 17592186044416
 rotate_left
 ·rw [if_neg c7] at H
  exact absurd H (by simp)
 rw [if_pos c7] at H
 have LMc7 := Aside0.mk c7
 clear c7
 obtain ⟨y513, hy513⟩ : ∃ y_ : List Int, y_ = ((rd_L4 t508 a1) ++ [a2]) := ⟨_, rfl⟩
 replace H : (some (t508.set (a1 : Int).toNat y513)) = some r := by (rw [hy513]; with_reducible exact H) 
 have Ny513 := Aside0.mk hy513
 clear hy513
 obtain ⟨y516, hy516⟩ : ∃ y_ : List (List Int), y_ = (t508.set (a1 : Int).toNat y513) := ⟨_, rfl⟩
 replace H : (some y516) = some r := by (rw [hy516]; with_reducible exact H) 
 have Ny516 := Aside0.mk hy516
 clear hy516
 obtain rfl := Option.some.inj H
 go_enter Try.func26, Try.ntmps26
 try go_wp2_with (first | ((with_reducible refine gate_dst (N := 3) rfl ?_); refine box_event ?hg (N := 3) ?hd (cs := #[.slice A0_0 l0_0.length c0_0]) (t := 26) ?hr ?_; (case hd | hg => rfl); (case hr => go_simp); intro gb506 hg w9 hbox hb; have BK506 := Aside0.mk (hbox); have GW506 := gsb (w := w) hg (bel HB); have GE506 := gsb (w := w) hg (bel HB); replace HB := Aside0.mk (below_step (bel HB) hb); clear hb hbox hg) | ((with_reducible refine gate_dst (N := 6) rfl ?_); refine box_event ?hg (N := 6) ?hd (cs := #[.slice none 0 0]) (t := 26) ?hr ?_; (case hd | hg => rfl); (case hr => go_simp); intro gb507 hg w10 hbox hb; have BK507 := Aside0.mk (hbox); have GW507 := gsb (w := w) hg (bel1 HB GE506); have GE507 := gsb (w := w) hg (bel1 HB GE506); replace HB := Aside0.mk (below_step (bel1 HB GE506) hb); have NB506_507 := nbl hg BK506; have NB507_506 := nbr hg BK506; replace BK506 := bkb BK506 hb; clear hb hbox hg; have hnb11 := NB506_507.out; have hnc11 := NB507_506.out; obtain ⟨_, _⟩ := bf1 BK506) | ((with_reducible refine gate_callee (f := 43) rfl ?_); refine goesL_ (some 9) rfl rfl Try.func43 (by kernel_rfl) rfl #[.agg #[.slice A0_0 l0_0.length c0_0]] rfl gmp ?_; (with_reducible refine (spec_l5Own.calls k _ _ l0_0 t508 _ ?side1 ?side2 A4.out).mono ?_); (case side1 => exact cdl (Kd.C_below HR0_0.out HB.out)); (case side2 => exact HC0_0.out); rintro e w13 ⟨v509, rfl, ho0, hb⟩; refine ⟨_, rfl, ?_⟩; have HO510 := Aside0.mk (Kd.S_lower ho0 (below_size (bel2 HB GE506 GE507))); replace BK506 := bkb BK506 hb; replace BK507 := bkb BK507 hb; replace HB := Aside0.mk (below_step (bel2 HB GE506 GE507) hb); (try clear hb); (try clear ho0)) | ((with_reducible refine gate_dst (N := 7) rfl ?_); refine box_event ?hg (N := 7) ?hd (cs := #[.slice none 0 0]) (t := 26) ?hr ?_; (case hd | hg => rfl); (case hr => go_simp); intro gb511 hg w14 hbox hb; replace HO510 := Aside0.mk (Kd.S_below (sdl HO510) hb); have BK511 := Aside0.mk (hbox); have GW511 := gsb (w := w) hg (bel2 HB GE506 GE507); have GE511 := gsb (w := w) hg (bel2 HB GE506 GE507); replace HB := Aside0.mk (below_step (bel2 HB GE506 GE507) hb); have NB506_511 := nbl hg BK506; have NB511_506 := nbr hg BK506; replace BK506 := bkb BK506 hb; have NB507_511 := nbl hg BK507; have NB511_507 := nbr hg BK507; replace BK507 := bkb BK507 hb; clear hb hbox hg; obtain ⟨Ao15, co15, eo15⟩ := Kd.S_slice HO510.out; subst eo15; have hnb16 := NB511_506.out; have hnc16 := NB506_511.out; have hnb17 := NB511_507.out; have hnc17 := NB507_511.out; obtain ⟨_, _⟩ := bf1 BK511))
 have n0_ : Aside0 (Kd.S (Kd.slice 3 (Kd.int .i64)) 30 (w14.setCell ⟨gb511, 0, none⟩ (.slice Ao15 t508.length co15)) w.heap.size (fun _ => True) (.slice Ao15 t508.length co15) t508) := ⟨by exact Kd.S_mono (Kd.S_far (p := ⟨gb511, 0, none⟩) (Kd.S_types HO510.out BK511.out (by decide)) (fun _ hk => hk.2) (.slice Ao15 t508.length co15)) (fun _ hk => trivial)⟩
 have n1_ : Aside0 ((w14.setCell ⟨gb511, 0, none⟩ (.slice Ao15 t508.length co15)).heap[gb506]? = some (.cells #[.slice A0_0 l0_0.length c0_0] 26 (0, 0))) := ⟨by refine blk_far ?_ NB506_511.out _; exact BK506.out⟩
 have n2_ : Aside0 ((w14.setCell ⟨gb511, 0, none⟩ (.slice Ao15 t508.length co15)).heap[gb507]? = some (.cells #[.slice none 0 0] 26 (0, 0))) := ⟨by refine blk_far ?_ NB507_511.out _; exact BK507.out⟩
 have n3_ : Aside0 ((w14.setCell ⟨gb511, 0, none⟩ (.slice Ao15 t508.length co15)).heap[gb511]? = some (.cells #[.slice Ao15 t508.length co15] 26 (0, 0))) := ⟨by refine blk_put (cs := #[.slice none 0 0]) ?_ 0 _ rfl; exact BK511.out⟩
 have n4_ : Aside0 (Below w.heap.size w (w14.setCell ⟨gb511, 0, none⟩ (.slice Ao15 t508.length co15))) := ⟨bel3 HB GE506 GE507 GE511⟩
 (try clear HO510)
 (try clear BK506)
 (try clear BK507)
 (try clear BK511)
 (try clear HB)
 generalize (w14.setCell ⟨gb511, 0, none⟩ (.slice Ao15 t508.length co15)) = w19 at n0_ n1_ n2_ n3_ n4_ ⊢
 have HO510 := n0_
 have BK506 := n1_
 have BK507 := n2_
 have BK511 := n3_
 have HB := n4_
 clear n0_ n1_ n2_ n3_ n4_
 have n0_ := Aside0.mk (Kd.S_drew HO510.out)
 have n1_ := Aside0.mk (blk_drew BK506.out)
 have n2_ := Aside0.mk (blk_drew BK507.out)
 have n3_ := Aside0.mk (blk_drew BK511.out)
 have n4_ := Aside0.mk (below_drew1 HB.out)
 clear HO510 BK506 BK507 BK511 HB
 have HO510 := n0_
 have BK506 := n1_
 have BK507 := n2_
 have BK511 := n3_
 have HB := n4_
 clear n0_ n1_ n2_ n3_ n4_
 have p512 : 0 ≤ (a1 : Int) := oda
 have q512 : a1 < (t508.length : Int) := oda
 obtain ⟨ad512, A512_0, c512_0, e512, hx512_0, hl512_0, hi512_0⟩ := at_L4 (Kd.S_reads' HO510.out).2.2 a1 p512 q512
 cases e512
 obtain ⟨ce512, hce512, hMe512, hcc512⟩ := Kd.S_get HO510.out [] a1 p512 (by exact q512 )
 obtain ⟨ve512_0, rfl, ge512_0⟩ := hMe512
 have hv512_0 := hcc512 0 _ rfl
 rw [Nat.add_zero, show ((Kd.slice 3 (Kd.int .i64))).sz = 1 from rfl, Nat.mul_one] at hv512_0
 replace hv512_0 := Option.some.inj (hv512_0.symm.trans hx512_0)
 rw [hv512_0] at ge512_0
 have HL512_0 := Aside0.mk (show Kd.R (Kd.int .i64) 3 _ _ _ _ (rd_L4 t508 a1) from ge512_0)
 clear hv512_0 ge512_0
 have HX512_0 := Aside0.mk hx512_0
 clear hcc512 hce512
 have HR512_0 := Aside0.mk hi512_0
 have HC512_0 := Aside0.mk hl512_0
 clear hi512_0 hl512_0
 replace p512 := eq_true p512
 replace q512 := eq_true q512
 obtain ⟨go21, co21, eo21, gb21, gl21, cl21, HG21⟩ := Kd.S_form HO510.out (by have h_ : (a1 : Int) < ((t508.length : Int) : Int) := oda; have h2_ : 0 ≤ (a1 : Int) := (oda); omega)
 (cases eo21 )
 have GB21 := Aside0.mk gb21
 have GG21 := Aside0.mk HG21
 clear gb21 gl21 HG21
 (simp only [add_plain] at hx512_0 )
 obtain ⟨oki21, ce21, hcl21, hM21, hcc21, _, _, hH21⟩ := Kd.S_elem HO510.out [] (a1 : Int) (oda) (by have h_ : (a1 : Int) < ((t508.length : Int) : Int) := oda; exact h_ )
 obtain ⟨ve21_0, rfl, ge21_0⟩ := hM21
 have hv21 := hcc21 0 _ rfl
 have hX21 := HX512_0.out
 (try simp only [add_plain] at hX21)
 (try simp only [Nat.add_zero] at hv21)
 (try rw [show ((Kd.slice 3 (Kd.int .i64))).sz = 1 from rfl, Nat.mul_one] at hv21)
 replace hv21 := Option.some.inj (hv21.symm.trans hX21)
 subst hv21
 clear hX21 hcc21 hcl21
 have UU21 := Aside0.mk (show Kd.R (Kd.int .i64) 3 _ w.heap.size oki21 (.slice A512_0 (rd_L4 t508 a1).length c512_0) (rd_L4 t508 a1) from ge21_0)
 have HH21 := Aside0.mk hH21
 have HN21 := Aside0.mk (Kd.S_reads' HO510.out).1
 clear hH21 ge21_0
 refine start_ (n := 13) (S := fun w' => w'.cell? ⟨gb511, 0, none⟩ = some (.slice (some ⟨go21, 0, none⟩) t508.length co15) ∧ w'.cell? ⟨go21, (a1).toNat, none⟩ = some (.slice A512_0 (rd_L4 t508 a1).length c512_0)) (ds := [12]) #[false, false, false, false, false, false, false, false, false, false, false, false, false] (by kernel_rfl) rfl rfl ⟨(blk_cell BK511.out 0).trans rfl, hx512_0⟩ (fun hHeld => ?_); refine with_tabW spec_l7Put.tab2 spec_l7Put.bits2 (fun HT_ HW_ => ?_)
 generalize w19.drew = w20 at HO510 BK506 BK507 BK511 HB GG21 HH21 HL512_0 HR512_0 HX512_0 UU21 hx512_0 hHeld ⊢
 refine pu 0 (some 10) (bx 13 1) (h := ?_)
 refine pu 2 (some 12) (bx 13 5) (h := ?_)
 refine pu 3 (some 13) (bx 13 13) (h := ?_)
 refine pu 5 (some 15) (bx 13 45) (h := ?_)
 refine pu 8 (some 18) (bx 13 301) (h := ?_)
 refine tk2 1 (some 11) (bx 13 303) (h := ?_)
 refine tk2 4 (some 14) (bx 13 319) (h := ?_)
 refine pu 6 (some 16) (bx 13 383) (h := ?_)
 refine tk2 7 (some 17) (bx 13 511) (h := ?_)
 refine on 9 (some 19) (bx 13 1023) (h := fun K hK => ?_)
 refine value_ (w1 := ?_) (v := ?_) (by rfl) rfl ?_ ?_
 rotate_left 2
 ·go_simp
  constructor
  ·rfl
  rfl
 refine hK.out _ _ ⟨(blk_cell (blk_alloc BK511.out _) 0).trans rfl, (World.cell?_alloc_lt _ _ _ (World.block_lt_of_cell? _ _ (hHeld.2))).trans (hHeld.2)⟩ (fun hHeld => ?_)
 clear hK K
 refine nm 19 (h := ?_)
 refine on 10 (some 20) (bx 13 2047) (h := fun K hK => ?_)
 refine Kd.R_append_step (Kd.int .i64) (w0 := w) w.heap.size (by rfl) (.tmp 17) (.tmp 19) 30 3 (.int .i64 0) 8 rfl Try.underlying30 info3 rfl (by decide) (by omega) (.slice A512_0 (rd_L4 t508 a1).length c512_0) (rd_L4 t508 a1) a2 [.int .i64 a2] (fun k_ => oki21 k_ ∨ ((fun _ => True)) k_ ∧ w20.heap.size ≤ k_) (fun _ => False) rfl rfl ?aP (fun _ hk => hk.elim) ?aF ?aO ?aB ?aS ?aL ?_
 (case aP => exact rfl)
 (case aB => exact (bel3 HB GE506 GE507 GE511))
 (case aF => exact (fun k_ hk => .inr ⟨trivial, hk⟩))
 (case aO => exact (by exact Kd.R_mono UU21.out (fun _ hk => .inl hk)))
 (case aS => exact (below_size (bel3 HB GE506 GE507 GE511)))
 (case aL => have := LMc7.out; omega)
 intro v514 w22 ho hb hg hat
 (have HS1_ := cell_grown hg (cell_unalloc (hHeld.2) (by exact Kd.S_lt HO510.out _ rfl)) (by exact (fun e_ => ((HL512_0.out.1 _ e_.symm).2) rfl)))
 rw [← Ny513.out] at ho
 have n0_ := Aside0.mk (blk_grown (g := gb506) (o := .cells #[.slice A0_0 l0_0.length c0_0] 26 (0, 0)) (bkl BK506) hg (Kd.R_ne HL512_0.out BK506.out (by decide)))
 have n1_ := Aside0.mk (blk_grown (g := gb507) (o := .cells #[.slice none 0 0] 26 (0, 0)) (bkl BK507) hg (Kd.R_ne HL512_0.out BK507.out (by decide)))
 have n2_ := Aside0.mk (blk_grown (g := gb511) (o := .cells #[.slice (some ⟨go21, 0, none⟩) t508.length co15] 26 (0, 0)) (bkl BK511) hg (Kd.R_ne HL512_0.out BK511.out (by decide)))
 have n3_ := Aside0.mk (hb)
 have n4_ := Aside0.mk (Kd.H_grown (Kd.H_widen (by repeat (exact HH21.out ))) hg (fun k_ e_ => .inl (UU21.out.1 k_ e_)))
 have n5_ := Aside0.mk (ho)
 clear BK506 BK507 BK511 HB HH21 HO510 UU21 HL512_0
 have BK506 := n0_
 have BK507 := n1_
 have BK511 := n2_
 have HB := n3_
 have HH21 := n4_
 have HO515 := n5_
 clear n0_ n1_ n2_ n3_ n4_ n5_ ho hb hg hat
 have p8 : 0 ≤ (a1 : Int) := oda
 have q8 : (a1 : Int) < ((t508.length : Int) : Int) := oda
 replace p8 := eq_true p8
 replace q8 := eq_true q8
 obtain ⟨Ao25, co25, eo25⟩ := Kd.R_slice HO515.out
 (subst eo25 )
 obtain ⟨_, _, hraw23, _, _, hcc23, _⟩ := Kd.H_raw HH21.out (oda) (by have h_ : (a1 : Int) < ((t508.length : Int) : Int) := oda; exact h_ )
 obtain ⟨_, hfr23⟩ := Kd.H_at HH21.out (oda) (by have h_ : (a1 : Int) < ((t508.length : Int) : Int) := oda; exact h_ )
 have hx23_0 := hcc23 0 _ rfl
 have hf23_0 := hfr23 0
 (try simp only [Nat.add_zero] at hx23_0 hf23_0)
 (try rw [show ((Kd.slice 3 (Kd.int .i64))).sz = 1 from rfl, Nat.mul_one] at hx23_0)
 (try rw [show ((Kd.slice 3 (Kd.int .i64))).sz = 1 from rfl, Nat.mul_one] at hf23_0)
 have HP23 := Kd.S_seg0 HH21.out (oda) (by have h_ : (a1 : Int) < ((t508.length : Int) : Int) := oda; exact h_ ) (seg := [.slice Ao25 y513.length co25]) (j := 0) (show 1 ≤ 1 from by decide) (x' := y513) (Kd.M_row HO515.out) (fun _ hk => hk)
 (try simp only [show ((Kd.slice 3 (Kd.int .i64))).sz = 1 from rfl, Nat.mul_one, Nat.add_zero] at HP23)
 clear hcc23 hfr23
 have HNB506_go21 := Aside0.mk (show gb506 ≠ go21 from by have h_ := Kd.R_ne hraw23 BK506.out (by decide); intro e_; exact h_ (by rw [e_]; rfl))
 have HNB507_go21 := Aside0.mk (show gb507 ≠ go21 from by have h_ := Kd.R_ne hraw23 BK507.out (by decide); intro e_; exact h_ (by rw [e_]; rfl))
 have HNB511_go21 := Aside0.mk (show gb511 ≠ go21 from by have h_ := Kd.R_ne hraw23 BK511.out (by decide); intro e_; exact h_ (by rw [e_]; rfl))
 have HS23 := HP23.1
 rw [← Ny516.out] at HS23
 have HQ23 := Aside0.mk HS23
 obtain ⟨_, hgg23⟩ := Kd.R_typed hraw23 go21 rfl
 have GG23_ := Aside0.mk hgg23
 clear HP23 HS23 hgg23
 refine hK.out _ _ ⟨(blk_cell BK511.out 0).trans rfl, HS1_⟩ (fun hHeld => ?_)
 clear hK K
 refine nm 20 (h := ?_)
 refine pu 11 (some 21) (bx 13 4095) (h := ?_)
 refine last_ (i := 12) (N := none) #[true, true, true, true, true, true, true, true, true, true, true, true, true] rfl rfl (one_of HT_.out (by kernel_rfl)) (by decide) (fun K hK => ?_)
 refine skip_ (w1 := ?_) (by rfl) rfl ?_ ?_
 rotate_left
 ·go_simp
  rfl
 refine hK.out _ _ ?_
 clear hK K
 refine done_ (done_of HT_.out (by kernel_rfl)) ?_
 have n0_ : Aside0 (Kd.S (Kd.slice 3 (Kd.int .i64)) 30 (w22.setCell ⟨go21, (a1 : Int).toNat, none⟩ (.slice Ao25 y513.length co25)) w.heap.size (fun _ => True) (.slice (some ⟨go21, 0, none⟩) t508.length co15) y516) := ⟨sdl HQ23⟩
 have n1_ : Aside0 ((w22.setCell ⟨go21, (a1 : Int).toNat, none⟩ (.slice Ao25 y513.length co25)).heap[gb506]? = some (.cells #[.slice A0_0 l0_0.length c0_0] 26 (0, 0))) := ⟨by refine blk_far ?_ HNB506_go21.out _; exact BK506.out⟩
 have n2_ : Aside0 ((w22.setCell ⟨go21, (a1 : Int).toNat, none⟩ (.slice Ao25 y513.length co25)).heap[gb507]? = some (.cells #[.slice none 0 0] 26 (0, 0))) := ⟨by refine blk_far ?_ HNB507_go21.out _; exact BK507.out⟩
 have n3_ : Aside0 ((w22.setCell ⟨go21, (a1 : Int).toNat, none⟩ (.slice Ao25 y513.length co25)).heap[gb511]? = some (.cells #[.slice (some ⟨go21, 0, none⟩) t508.length co15] 26 (0, 0))) := ⟨by refine blk_far ?_ HNB511_go21.out _; exact BK511.out⟩
 have n4_ : Aside0 (Below w.heap.size w (w22.setCell ⟨go21, (a1 : Int).toNat, none⟩ (.slice Ao25 y513.length co25))) := ⟨by repeat ((with_reducible first | exact HB.out | refine below_set ?_ GB21.out ) )⟩
 (try clear BK506)
 (try clear BK507)
 (try clear BK511)
 (try clear HB)
 generalize (w22.setCell ⟨go21, (a1 : Int).toNat, none⟩ (.slice Ao25 y513.length co25)) = w26 at n0_ n1_ n2_ n3_ n4_ ⊢
 have HO510 := n0_
 have BK506 := n1_
 have BK507 := n2_
 have BK511 := n3_
 have HB := n4_
 clear n0_ n1_ n2_ n3_ n4_
 have hcz27_0 := bc BK511 0
 have hfz27_0 := blk_frozen BK511.out 0
 have hcz28_0 := bc BK507 0
 have hfz28_0 := blk_frozen BK507.out 0
 try go_wp2
 refine bodyPost_ret (results_cell_row rfl _ _ gb507 26 #[.slice (some ⟨go21, 0, none⟩) t508.length co15] (0, 0) _ rfl (blk_put BK507.out 0 _ rfl) Try.underlying26 rfl (by kernel_rfl)) rfl ?_
 exact ⟨_, by rfl , by exact Kd.S_mono (Kd.S_far (p := ⟨gb507, 0, none⟩) (Kd.S_types HO510.out BK507.out (by decide)) (fun _ hk => hk.2) (.slice (some ⟨go21, 0, none⟩) t508.length co15)) (fun _ hk => trivial), bel3 HB GE506 GE507 GE511⟩
end Go.Proofs.Ytemildnlfjijmaa.P
