-- Written by a program of this session over the translation (a variant of the printer, see wip/gen); Lean checks it.
import Derived.Test.YtemildnlfjijmaaVC
import Derived.Test.YtemildnlfjijmaaPx0
namespace Go.Proofs.Ytemildnlfjijmaa.P
open Go.RowKit Go.Proofs.YtemildnlfjijmaaW.PrintWords Go.Proofs.YtemildnlfjijmaaW.PrintLast Go.Proofs.YtemildnlfjijmaaW.PrintMore
attribute [local go_sem] Go.Proofs.Ytemildnlfjijmaa.V.isSome_setCell max2_int min2_int max_two min_two max_three min_three max_four min_four
set_option linter.unusedVariables false
set_option linter.unusedSimpArgs false
/-! ### spec_l5Find: function 18 -/
mutual
def spec_l5Find.l0 : Nat → Int → Int → List (List Int) → Option (Int × Int)
 | 0, _, _, _ => none
 | k + 1, x1, x6, x403000 => if x6 < (x403000.length : Int) then (spec_l5Find.l1 k x1 x6 0 x403000) else (some ((-1), (-1)))
def spec_l5Find.l1 : Nat → Int → Int → Int → List (List Int) → Option (Int × Int)
 | 0, _, _, _, _ => none
 | k + 1, x1, x6, x7, x403000 => if 0 ≤ x6 then (if x6 < (x403000.length : Int) then (if x7 < ((rd_L4 x403000 x6).length : Int) then (if 0 ≤ x7 then (if (rd (rd_L4 x403000 x6) x7) = x1 then (some (x6, x7)) else (spec_l5Find.l1 k x1 x6 (wrap64 (x7 + 1)) x403000)) else (none)) else (spec_l5Find.l0 k x1 (wrap64 (x6 + 1)) x403000)) else (none)) else (none)
end
def spec_l5Find.f (k : Nat) (l0_0 : List (List Int)) (a1 : Int) : Option (Int × Int) := spec_l5Find.l0 k a1 0 l0_0
set_option maxHeartbeats 8000000 in
set_option maxRecDepth 100000 in
theorem spec_l5Find.calls (k : Nat) (A0_0 : Option Addr) (c0_0 : Nat) (l0_0 : List (List Int)) (a1 : Int) (r1 : Int) (r2 : Int) (w : World) (hr0_0 : Kd.C (Kd.slice 3 (Kd.int .i64)) w A0_0 l0_0.length l0_0) (hc0_0 : l0_0.length ≤ c0_0) (h : spec_l5Find.f k l0_0 a1 = some (r1, r2)) :
  Calls Try.prog 18 #[.agg #[.slice A0_0 l0_0.length c0_0], .int .i64 a1] w fun e w' => e = .returned (.tuple #[.int .i64 r1, .int .i64 r2]) ∧ Below w.heap.size w w' := by
 have hu26 := Try.underlying26
 have HR0_0 := Aside0.mk hr0_0
 have HC0_0 := Aside0.mk hc0_0
 clear hr0_0 hc0_0
 have HB := Aside0.mk (Below.refl w.heap.size w)
 have H : (spec_l5Find.l0 k a1 0 l0_0) = some (r1, r2) := h
 clear h
 have H' := Aside0.mk H
 clear H
 go_enter Try.func18, Try.ntmps18
 go_wp2_with (first | ((with_reducible refine gate_dst (N := 2) rfl ?_); refine box_event ?hg (N := 2) ?hd (cs := #[.slice A0_0 l0_0.length c0_0]) (t := 26) ?hr ?_; (case hd | hg => rfl); (case hr => go_simp); intro gb402 hg w3 hbox hb; have BK402 := Aside0.mk (hbox); have GW402 := gsb (w := w) hg (bel HB); have GE402 := gsb (w := w) hg (bel HB); replace HB := Aside0.mk (below_step (bel HB) hb); clear hb hbox hg))
 go_loopg [6] k (fun kq v6 w' => ∃ (x6_1 : Int), v6 = .int .i64 x6_1 ∧ Aside0 (spec_l5Find.l0 kq a1 x6_1 l0_0 = some (r1, r2)) ∧ Aside0 (kq ≤ k) ∧ Aside0 (w'.heap[gb402]? = some (.cells #[(.slice A0_0 l0_0.length c0_0)] 26 (0, 0))) ∧ Aside0 (Below w.heap.size w w'))
 case atStart => exact ⟨(0), (by rfl ), H', ⟨Nat.le_refl _⟩, ⟨bkl BK402⟩, ⟨bel1 HB GE402⟩⟩
 clear H'
 obtain ⟨x6_1, rfl, HA, HK1, BK402, HB⟩ := hrel
 cases gk with
 | zero => exact absurd HA.out (by simp [spec_l5Find.l0])
 | succ k1 =>
  have H := HA.out
  clear HA
  simp only [spec_l5Find.l0] at H
  by_cases c4 : x6_1 < (l0_0.length : Int)
  rotate_left
  ·rw [if_neg c4] at H
   have c4b0 : decide (x6_1 < (l0_0.length : Int)) = false := decide_eq_false c4
   clear c4
   simp only [Option.some.injEq, Prod.mk.injEq] at H
   obtain ⟨rfl, rfl⟩ := H
   have hcz14_0 := bc BK402 0
   have hfz14_0 := blk_frozen BK402.out 0
   go_wp2
   go_ret2
   exact ⟨by rfl , bel1 HB GE402⟩
  rw [if_pos c4] at H
  have c4b0 : decide (x6_1 < (l0_0.length : Int)) = true := decide_eq_true c4
  clear c4
  have H' := Aside0.mk H
  clear H
  have hcz5_0 := bc BK402 0
  have hfz5_0 := blk_frozen BK402.out 0
  go_wp2
  go_loopg [7] k1 (fun kq v7 w' => ∃ (x7_2 : Int), v7 = .int .i64 x7_2 ∧ Aside0 (spec_l5Find.l1 kq a1 x6_1 x7_2 l0_0 = some (r1, r2)) ∧ Aside0 (kq ≤ k1) ∧ Aside0 (w'.heap[gb402]? = some (.cells #[(.slice A0_0 l0_0.length c0_0)] 26 (0, 0))) ∧ Aside0 (Below w.heap.size w w'))
  case atStart => exact ⟨(0), (by rfl ), H', ⟨Nat.le_refl _⟩, ⟨bkl BK402⟩, ⟨bel1 HB GE402⟩⟩
  clear H'
  try clear c4b0
  try clear hcz5_0
  try clear hfz5_0
  obtain ⟨x7_2, rfl, HA, HK2, BK402, HB⟩ := hrel
  cases gk with
  | zero => exact absurd HA.out (by simp [spec_l5Find.l1])
  | succ k2 =>
   have H := HA.out
   clear HA
   simp only [spec_l5Find.l1] at H
   by_cases c6 : 0 ≤ x6_1
   rotate_left
   ·rw [if_neg c6] at H
    exact absurd H (by simp)
   rw [if_pos c6] at H
   have c6b0 : decide (0 ≤ x6_1) = true := decide_eq_true c6
   clear c6
   by_cases c7 : x6_1 < (l0_0.length : Int)
   rotate_left
   ·rw [if_neg c7] at H
    exact absurd H (by simp)
   rw [if_pos c7] at H
   have c7b0 : decide (x6_1 < (l0_0.length : Int)) = true := decide_eq_true c7
   clear c7
   by_cases c8 : x7_2 < ((rd_L4 l0_0 x6_1).length : Int)
   rotate_left
   ·rw [if_neg c8] at H
    have c8b0 : decide (x7_2 < ((rd_L4 l0_0 x6_1).length : Int)) = false := decide_eq_false c8
    clear c8
    have H' := Aside0.mk H
    clear H
    have hcz13_0 := bc BK402 0
    have hfz13_0 := blk_frozen BK402.out 0
    have p403 : 0 ≤ (x6_1 : Int) := oda
    have q403 : x6_1 < (l0_0.length : Int) := oda
    obtain ⟨ad403, A403_0, c403_0, e403, hx403_0, hl403_0, hi403_0⟩ := at_L4 HR0_0.out x6_1 p403 q403
    cases e403
    replace hx403_0 := cel HB hx403_0
    have HR403_0 := Aside0.mk hi403_0
    have HC403_0 := Aside0.mk hl403_0
    clear hi403_0 hl403_0
    replace p403 := eq_true p403
    replace q403 := eq_true q403
    go_wp2
    go_roundg k2
    case measure => have := HK1.out; have := HK2.out; omega
    case rel => exact ⟨(wrap64 (x6_1 + 1)), (by rfl ), H', ⟨by have := HK1.out; have := HK2.out; omega⟩, ⟨bkl BK402⟩, ⟨bel1 HB GE402⟩⟩
   rw [if_pos c8] at H
   have c8b0 : decide (x7_2 < ((rd_L4 l0_0 x6_1).length : Int)) = true := decide_eq_true c8
   clear c8
   by_cases c9 : 0 ≤ x7_2
   rotate_left
   ·rw [if_neg c9] at H
    exact absurd H (by simp)
   rw [if_pos c9] at H
   have c9b0 : decide (0 ≤ x7_2) = true := decide_eq_true c9
   clear c9
   by_cases c10 : (rd (rd_L4 l0_0 x6_1) x7_2) = a1
   ·rw [if_pos c10] at H
    have c10b0 : ((rd (rd_L4 l0_0 x6_1) x7_2) == a1) = true := beq_iff_eq.mpr c10
    have c10b1 : ((rd (rd_L4 l0_0 x6_1) x7_2) != a1) = false := bne_eq_false_iff_eq.mpr c10
    clear c10
    simp only [Option.some.injEq, Prod.mk.injEq] at H
    obtain ⟨rfl, rfl⟩ := H
    have hcz11_0 := bc BK402 0
    have hfz11_0 := blk_frozen BK402.out 0
    have p403 : 0 ≤ (x6_1 : Int) := oda
    have q403 : x6_1 < (l0_0.length : Int) := oda
    obtain ⟨ad403, A403_0, c403_0, e403, hx403_0, hl403_0, hi403_0⟩ := at_L4 HR0_0.out x6_1 p403 q403
    cases e403
    replace hx403_0 := cel HB hx403_0
    have HR403_0 := Aside0.mk hi403_0
    have HC403_0 := Aside0.mk hl403_0
    clear hi403_0 hl403_0
    replace p403 := eq_true p403
    replace q403 := eq_true q403
    have p404 : 0 ≤ (x6_1 : Int) := oda
    have q404 : x6_1 < (l0_0.length : Int) := oda
    obtain ⟨ad404, A404_0, c404_0, e404, hx404_0, hl404_0, hi404_0⟩ := at_L4 HR0_0.out x6_1 p404 q404
    obtain rfl : ad403 = ad404 := (by injection e404)
    replace hx404_0 := cel HB hx404_0
    have HR404_0 := Aside0.mk hi404_0
    have HC404_0 := Aside0.mk hl404_0
    clear hi404_0 hl404_0
    replace p404 := eq_true p404
    replace q404 := eq_true q404
    have ea_ := Option.some.inj (hx403_0.symm.trans hx404_0)
    injection ea_ with ea_ en_ ec_
    subst ea_
    subst ec_
    clear en_
    have p405 : 0 ≤ (x7_2 : Int) := oda
    have q405 : x7_2 < ((rd_L4 l0_0 x6_1).length : Int) := oda
    obtain ⟨ad405, e405, hx405_0⟩ := Kd.at_int HR404_0.out x7_2 p405 q405
    cases e405
    replace hx405_0 := cel HB hx405_0
    replace p405 := eq_true p405
    replace q405 := eq_true q405
    go_wp2
    go_ret2
    exact ⟨by rfl , bel1 HB GE402⟩
   rw [if_neg c10] at H
   have c10b0 : ((rd (rd_L4 l0_0 x6_1) x7_2) == a1) = false := beq_eq_false_iff_ne.mpr c10
   have c10b1 : ((rd (rd_L4 l0_0 x6_1) x7_2) != a1) = true := bne_iff_ne.mpr c10
   have H' := Aside0.mk H
   clear H
   have hcz12_0 := bc BK402 0
   have hfz12_0 := blk_frozen BK402.out 0
   have p403 : 0 ≤ (x6_1 : Int) := oda
   have q403 : x6_1 < (l0_0.length : Int) := oda
   obtain ⟨ad403, A403_0, c403_0, e403, hx403_0, hl403_0, hi403_0⟩ := at_L4 HR0_0.out x6_1 p403 q403
   cases e403
   replace hx403_0 := cel HB hx403_0
   have HR403_0 := Aside0.mk hi403_0
   have HC403_0 := Aside0.mk hl403_0
   clear hi403_0 hl403_0
   replace p403 := eq_true p403
   replace q403 := eq_true q403
   have p404 : 0 ≤ (x6_1 : Int) := oda
   have q404 : x6_1 < (l0_0.length : Int) := oda
   obtain ⟨ad404, A404_0, c404_0, e404, hx404_0, hl404_0, hi404_0⟩ := at_L4 HR0_0.out x6_1 p404 q404
   obtain rfl : ad403 = ad404 := (by injection e404)
   replace hx404_0 := cel HB hx404_0
   have HR404_0 := Aside0.mk hi404_0
   have HC404_0 := Aside0.mk hl404_0
   clear hi404_0 hl404_0
   replace p404 := eq_true p404
   replace q404 := eq_true q404
   have ea_ := Option.some.inj (hx403_0.symm.trans hx404_0)
   injection ea_ with ea_ en_ ec_
   subst ea_
   subst ec_
   clear en_
   have p405 : 0 ≤ (x7_2 : Int) := oda
   have q405 : x7_2 < ((rd_L4 l0_0 x6_1).length : Int) := oda
   obtain ⟨ad405, e405, hx405_0⟩ := Kd.at_int HR404_0.out x7_2 p405 q405
   cases e405
   replace hx405_0 := cel HB hx405_0
   replace p405 := eq_true p405
   replace q405 := eq_true q405
   go_wp2
   go_roundg k2
   case measure => have := HK1.out; have := HK2.out; omega
   case rel => exact ⟨(wrap64 (x7_2 + 1)), (by rfl ), H', ⟨by have := HK1.out; have := HK2.out; omega⟩, ⟨bkl BK402⟩, ⟨bel1 HB GE402⟩⟩
end Go.Proofs.Ytemildnlfjijmaa.P
