-- Written by a program of this session over the translation (a variant of the printer, see wip/gen); Lean checks it.
import Derived.Test.YtemildnlfjijmaaVC
import Derived.Test.YtemildnlfjijmaaPx0
import Derived.Test.YtemildnlfjijmaaPx4
import Derived.Test.YtemildnlfjijmaaPx14
import Derived.Test.YtemildnlfjijmaaPx19
import Derived.Test.YtemildnlfjijmaaPx20
import Derived.Test.YtemildnlfjijmaaPx22
import Derived.Test.YtemildnlfjijmaaPx30
namespace Go.Proofs.Ytemildnlfjijmaa.P
open Go.RowKit Go.Proofs.YtemildnlfjijmaaW.PrintWords Go.Proofs.YtemildnlfjijmaaW.PrintLast Go.Proofs.YtemildnlfjijmaaW.PrintMore
attribute [local go_sem] Go.Proofs.Ytemildnlfjijmaa.V.isSome_setCell max2_int min2_int max_two min_two max_three min_three max_four min_four
set_option linter.unusedVariables false
set_option linter.unusedSimpArgs false
/-! ### impl_HelpfulMoves: function 11 -/
mutual
def impl_HelpfulMoves.l0 : Nat → List (S71) → Int → Int → List (List Int) → Int → Int → List (List Int) → Option ((List (List Int)) × Bool)
 | 0, _, _, _, _, _, _, _ => none
 | k + 1, x1, x2, x8, x9, x28, x29, x584000 => if x29 < x28 then (impl_HelpfulMoves.l1 k x1 x2 x8 x9 x29 x28 x29 (x584000.length : Int) 0 x584000) else (some (x9, true))
def impl_HelpfulMoves.l1 : Nat → List (S71) → Int → Int → List (List Int) → Int → Int → Int → Int → Int → List (List Int) → Option ((List (List Int)) × Bool)
 | 0, _, _, _, _, _, _, _, _, _, _ => none
 | k + 1, x1, x2, x8, x9, x10, x28, x29, x34, x35, x584000 => if x35 < x34 then ((impl_MoveTop.f k x584000 x10 x35).bind fun bt591 => (if bt591.2.2 = true then ((impl_yardFindings.f k bt591.1 x1 x2).bind fun t597 => (if (t597.length : Int) < x8 then (if x9.length < 5864062014805 then (impl_HelpfulMoves.l1 k x1 x2 x8 (x9 ++ [(([x10, x35] : List Int))]) x10 x28 x29 x34 (wrap64 (x35 + 1)) x584000) else (none)) else (impl_HelpfulMoves.l1 k x1 x2 x8 x9 x10 x28 x29 x34 (wrap64 (x35 + 1)) x584000))) else (impl_HelpfulMoves.l1 k x1 x2 x8 x9 x10 x28 x29 x34 (wrap64 (x35 + 1)) x584000))) else (impl_HelpfulMoves.l0 k x1 x2 x8 x9 x28 (wrap64 (x29 + 1)) x584000)
end
def impl_HelpfulMoves.f (k : Nat) (l0_0 : List (List Int)) (l1 : List (S71)) (a2 : Int) : Option ((List (List Int)) × Bool) := (impl_areYard.f k l0_0 l1 a2).bind fun t584 => (if t584 = true then ((impl_yardFindings.f k l0_0 l1 a2).bind fun t585 => (impl_HelpfulMoves.l0 k l1 a2 (t585.length : Int) (([] : List (List Int))) (l0_0.length : Int) 0 l0_0)) else (some (([] : List (List Int)), false)))
set_option maxHeartbeats 8000000 in
set_option maxRecDepth 100000 in
theorem impl_HelpfulMoves.calls (k : Nat) (A0_0 : Option Addr) (c0_0 : Nat) (l0_0 : List (List Int)) (A1 : Option Addr) (c1 : Nat) (l1 : List (S71)) (a2 : Int) (r1 : List (List Int)) (r2 : Bool) (w : World) (hr0_0 : Kd.C (Kd.slice 3 (Kd.int .i64)) w A0_0 l0_0.length l0_0) (hc0_0 : l0_0.length ≤ c0_0) (hr1 : Kd.C k71 w A1 l1.length l1) (hc1 : l1.length ≤ c1) (h : impl_HelpfulMoves.f k l0_0 l1 a2 = some (r1, r2)) :
  Calls Try.prog 11 #[.agg #[.slice A0_0 l0_0.length c0_0], .slice A1 l1.length c1, .int .i64 a2] w fun e w' => ∃ v0_ : Value, e = .returned (.tuple #[v0_, .bool r2]) ∧ Kd.S (Kd.slice 3 (Kd.int .i64)) 30 w' w.heap.size (fun _ => True) v0_ r1 ∧ Below w.heap.size w w' := by
 have hu26 := Try.underlying26
 have HR0_0 := Aside0.mk hr0_0
 have HC0_0 := Aside0.mk hc0_0
 clear hr0_0 hc0_0
 have HR1 := Aside0.mk hr1
 have HC1 := Aside0.mk hc1
 clear hr1 hc1
 have HB := Aside0.mk (Below.refl w.heap.size w)
 have H : ((impl_areYard.f k l0_0 l1 a2).bind fun t584 => (if t584 = true then ((impl_yardFindings.f k l0_0 l1 a2).bind fun t585 => (impl_HelpfulMoves.l0 k l1 a2 (t585.length : Int) (([] : List (List Int))) (l0_0.length : Int) 0 l0_0)) else (some (([] : List (List Int)), false)))) = some (r1, r2) := h
 clear h
 obtain ⟨t584, A4, H⟩ := bnd H
 try dsimp only at H
 by_cases c5 : t584 = true
 rotate_left
 ·replace c5 := Bool.eq_false_iff.mpr c5
  subst c5
  replace H : (some (([] : List (List Int)), false)) = some (r1, r2) := by rw [if_neg (show ¬ (false = true) by decide)] at H; exact H
  simp only [Option.some.injEq, Prod.mk.injEq] at H
  obtain ⟨rfl, rfl⟩ := H
  go_enter Try.func11, Try.ntmps11
  go_wp2_with (first | ((with_reducible refine gate_dst (N := 3) rfl ?_); (try (refine gate_guard (by rfl) ?_; dsimp only)); refine box_event ?hg (N := 3) ?hd (cs := #[.slice A0_0 l0_0.length c0_0]) (t := 26) ?hr ?_; (case hd | hg => rfl); (case hr => go_simp); intro gb583 hg w50 hbox hb; have BK583 := Aside0.mk (hbox); have GW583 := gsb (w := w) hg (bel HB); have GE583 := gsb (w := w) hg (bel HB); replace HB := Aside0.mk (below_step (bel HB) hb); clear hb hbox hg; have hcz51_0 := bc BK583 0; have hfz51_0 := blk_frozen BK583.out 0) | ((with_reducible refine gate_callee (f := 20) rfl ?_); refine goesL_ (some 18) rfl rfl Try.func20 (by kernel_rfl) rfl #[.agg #[.slice A0_0 l0_0.length c0_0], .slice A1 l1.length c1, .int .i64 a2] rfl gmp ?_; (with_reducible refine (impl_areYard.calls k _ _ l0_0 _ _ l1 a2 false _ ?side1 ?side2 ?side3 ?side4 A4.out).mono ?_); (case side1 => exact cdl (Kd.C_below HR0_0.out HB.out)); (case side2 => exact HC0_0.out); (case side3 => exact cdl (Kd.C_below HR1.out HB.out)); (case side4 => exact HC1.out); rintro e w52 ⟨rfl, hb⟩; refine ⟨_, rfl, ?_⟩; replace BK583 := bkb BK583 hb; replace HB := Aside0.mk (below_step (bel1 HB GE583) hb); (try clear hb)))
  go_ret2
  exact ⟨_, by rfl , by exact Kd.S_nil _ _ _ _ _ , bel1 HB GE583⟩
 subst c5
 replace H : ((impl_yardFindings.f k l0_0 l1 a2).bind fun t585 => (impl_HelpfulMoves.l0 k l1 a2 (t585.length : Int) (([] : List (List Int))) (l0_0.length : Int) 0 l0_0)) = some (r1, r2) := by rw [if_pos rfl] at H; exact H
 obtain ⟨t585, A6, H⟩ := bnd H
 try dsimp only at H
 obtain ⟨y588, hy588⟩ : ∃ y_ : List (List Int), y_ = (([] : List (List Int))) := ⟨_, rfl⟩
 replace H : (impl_HelpfulMoves.l0 k l1 a2 (t585.length : Int) y588 (l0_0.length : Int) 0 l0_0) = some (r1, r2) := by (rw [hy588]; with_reducible exact H) 
 have Ny588 := Aside0.mk hy588
 clear hy588
 have H' := Aside0.mk H
 clear H
 go_enter Try.func11, Try.ntmps11
 go_wp2_with (first | ((with_reducible refine gate_dst (N := 3) rfl ?_); (try (refine gate_guard (by rfl) ?_; dsimp only)); refine box_event ?hg (N := 3) ?hd (cs := #[.slice A0_0 l0_0.length c0_0]) (t := 26) ?hr ?_; (case hd | hg => rfl); (case hr => go_simp); intro gb583 hg w7 hbox hb; have BK583 := Aside0.mk (hbox); have GW583 := gsb (w := w) hg (bel HB); have GE583 := gsb (w := w) hg (bel HB); replace HB := Aside0.mk (below_step (bel HB) hb); clear hb hbox hg; have hcz8_0 := bc BK583 0; have hfz8_0 := blk_frozen BK583.out 0) | ((with_reducible refine gate_callee (f := 20) rfl ?_); refine goesL_ (some 18) rfl rfl Try.func20 (by kernel_rfl) rfl #[.agg #[.slice A0_0 l0_0.length c0_0], .slice A1 l1.length c1, .int .i64 a2] rfl gmp ?_; (with_reducible refine (impl_areYard.calls k _ _ l0_0 _ _ l1 a2 true _ ?side1 ?side2 ?side3 ?side4 A4.out).mono ?_); (case side1 => exact cdl (Kd.C_below HR0_0.out HB.out)); (case side2 => exact HC0_0.out); (case side3 => exact cdl (Kd.C_below HR1.out HB.out)); (case side4 => exact HC1.out); rintro e w9 ⟨rfl, hb⟩; refine ⟨_, rfl, ?_⟩; replace BK583 := bkb BK583 hb; replace HB := Aside0.mk (below_step (bel1 HB GE583) hb); (try clear hb); have hcz10_0 := bc BK583 0; have hfz10_0 := blk_frozen BK583.out 0) | ((with_reducible refine gate_callee (f := 28) rfl ?_); refine goesL_ (some 23) rfl rfl Try.func28 (by kernel_rfl) rfl #[.agg #[.slice A0_0 l0_0.length c0_0], .slice A1 l1.length c1, .int .i64 a2] rfl gmp ?_; (with_reducible refine (impl_yardFindings.calls k _ _ l0_0 _ _ l1 a2 t585 _ ?side1 ?side2 ?side3 ?side4 A6.out).mono ?_); (case side1 => exact cdl (Kd.C_below HR0_0.out HB.out)); (case side2 => exact HC0_0.out); (case side3 => exact cdl (Kd.C_below HR1.out HB.out)); (case side4 => exact HC1.out); rintro e w11 ⟨v586, rfl, ho0, hb⟩; refine ⟨_, rfl, ?_⟩; have HO587 := Aside0.mk (Kd.R_lower ho0 (below_size (bel1 HB GE583))); replace BK583 := bkb BK583 hb; replace HB := Aside0.mk (below_step (bel1 HB GE583) hb); (try clear hb); (try clear ho0); obtain ⟨Ao12, co12, eo12⟩ := Kd.R_slice HO587.out; subst eo12) | ((with_reducible refine gate_dst (N := 25) rfl ?_); (try (refine gate_guard (by rfl) ?_; dsimp only)); refine Kd.S_lit (Kd.slice 3 (Kd.int .i64)) _ 30 ?hg (N := 25) ?hd (xs := ([] : List (List Int))) (inner := []) (ok := fun _ => True) (okp := fun _ => True) ?hr ?hp (fun _ hk => hk) trivial (Below.refl _ _) (Nat.le_refl _) (by simp) ?_; (case hd | hg => rfl); (case hr => go_simp); (case hp => exact (Reps.none _ _)); intro v589 w13 ho14 hb hg_ hnew_; clear hg_ hnew_; (rw [← Ny588.out] at ho14 ); replace HO587 := Aside0.mk (Kd.R_below (rdl HO587) hb); have HO590 := Aside0.mk (Kd.S_lower ho14 (below_size (bel1 HB GE583))); replace BK583 := bkb BK583 hb; replace HB := Aside0.mk (below_step (bel1 HB GE583) hb); clear hb ho14; have hcz15_0 := bc BK583 0; have hfz15_0 := blk_frozen BK583.out 0))
 go_loopg [9, 29] k (fun kq v9 v29 w' => ∃ (x9_1 : List (List Int)) (x29_1 : Int), v29 = .int .i64 x29_1 ∧ Aside0 (impl_HelpfulMoves.l0 kq l1 a2 (t585.length : Int) x9_1 (l0_0.length : Int) x29_1 l0_0 = some (r1, r2)) ∧ Aside0 (kq ≤ k) ∧ Aside0 (Kd.S (Kd.slice 3 (Kd.int .i64)) 30 w' w.heap.size (fun _ => True) v9 x9_1) ∧ Aside0 (w'.heap[gb583]? = some (.cells #[(.slice A0_0 l0_0.length c0_0)] 26 (0, 0))) ∧ Aside0 (Below w.heap.size w w'))
 case atStart => exact ⟨(y588), (0), (by rfl ), H', ⟨Nat.le_refl _⟩, ⟨sdl HO590⟩, ⟨bkl BK583⟩, ⟨bel1 HB GE583⟩⟩
 clear H'
 try clear hcz10_0
 try clear hcz15_0
 try clear hcz8_0
 try clear hfz10_0
 try clear hfz15_0
 try clear hfz8_0
 obtain ⟨x9_1, x29_1, rfl, HA, HK1, HO_9, BK583, HB⟩ := hrel
 cases gk with
 | zero => exact absurd HA.out (by simp [impl_HelpfulMoves.l0])
 | succ k1 =>
  have H := HA.out
  clear HA
  simp only [impl_HelpfulMoves.l0] at H
  by_cases c16 : x29_1 < (l0_0.length : Int)
  rotate_left
  ·rw [if_neg c16] at H
   have c16b0 : decide (x29_1 < (l0_0.length : Int)) = false := decide_eq_false c16
   clear c16
   simp only [Option.some.injEq, Prod.mk.injEq] at H
   obtain ⟨rfl, rfl⟩ := H
   go_wp2
   go_ret2
   exact ⟨_, by rfl , sdl HO_9, bel1 HB GE583⟩
  rw [if_pos c16] at H
  have c16b0 : decide (x29_1 < (l0_0.length : Int)) = true := decide_eq_true c16
  clear c16
  have H' := Aside0.mk H
  clear H
  have hcz17_0 := bc BK583 0
  have hfz17_0 := blk_frozen BK583.out 0
  go_wp2
  go_loopg [9, 35] k1 (fun kq v9 v35 w' => ∃ (x9_2 : List (List Int)) (x35_2 : Int), v35 = .int .i64 x35_2 ∧ Aside0 (impl_HelpfulMoves.l1 kq l1 a2 (t585.length : Int) x9_2 x29_1 (l0_0.length : Int) x29_1 (l0_0.length : Int) x35_2 l0_0 = some (r1, r2)) ∧ Aside0 (kq ≤ k1) ∧ Aside0 (Kd.S (Kd.slice 3 (Kd.int .i64)) 30 w' w.heap.size (fun _ => True) v9 x9_2) ∧ Aside0 (w'.heap[gb583]? = some (.cells #[(.slice A0_0 l0_0.length c0_0)] 26 (0, 0))) ∧ Aside0 (Below w.heap.size w w'))
  case atStart => exact ⟨(x9_1), (0), (by rfl ), H', ⟨Nat.le_refl _⟩, ⟨sdl HO_9⟩, ⟨bkl BK583⟩, ⟨bel1 HB GE583⟩⟩
  clear H'
  try clear c16b0
  try clear hcz17_0
  try clear hfz17_0
  obtain ⟨x9_2, x35_2, rfl, HA, HK2, HO_9, BK583, HB⟩ := hrel
  cases gk with
  | zero => exact absurd HA.out (by simp [impl_HelpfulMoves.l1])
  | succ k2 =>
   have H := HA.out
   clear HA
   simp only [impl_HelpfulMoves.l1] at H
   by_cases c18 : x35_2 < (l0_0.length : Int)
   rotate_left
   ·rw [if_neg c18] at H
    have c18b0 : decide (x35_2 < (l0_0.length : Int)) = false := decide_eq_false c18
    clear c18
    have H' := Aside0.mk H
    clear H
    go_wp2
    go_roundg k2
    case measure => have := HK1.out; have := HK2.out; omega
    case rel => exact ⟨(x9_2), (wrap64 (x29_1 + 1)), (by rfl ), H', ⟨by have := HK1.out; have := HK2.out; omega⟩, ⟨sdl HO_9⟩, ⟨bkl BK583⟩, ⟨bel1 HB GE583⟩⟩
   rw [if_pos c18] at H
   have c18b0 : decide (x35_2 < (l0_0.length : Int)) = true := decide_eq_true c18
   clear c18
   obtain ⟨⟨t591, t594, t595⟩, A19, H⟩ := bnd H
   try dsimp only at H
   by_cases c20 : t595 = true
   rotate_left
   ·replace c20 := Bool.eq_false_iff.mpr c20
    subst c20
    replace H : (impl_HelpfulMoves.l1 k2 l1 a2 (t585.length : Int) x9_2 x29_1 (l0_0.length : Int) x29_1 (l0_0.length : Int) (wrap64 (x35_2 + 1)) l0_0) = some (r1, r2) := by rw [if_neg (show ¬ (false = true) by decide)] at H; exact H
    have H' := Aside0.mk H
    clear H
    have hcz44_0 := bc BK583 0
    have hfz44_0 := blk_frozen BK583.out 0
    go_wp2_with (first | ((with_reducible refine gate_callee (f := 30) rfl ?_); refine goesL_ (some 42) rfl rfl Try.func30 (by kernel_rfl) rfl #[.agg #[.slice A0_0 l0_0.length c0_0], .int .i64 x29_1, .int .i64 x35_2] rfl gmp ?_; (with_reducible refine (impl_MoveTop.calls k2 _ _ l0_0 x29_1 x35_2 t591 t594 false _ ?side1 ?side2 A19.out).mono ?_); (case side1 => exact cdl (Kd.C_below HR0_0.out HB.out)); (case side2 => exact HC0_0.out); rintro e w45 ⟨v592, rfl, ho0, hb⟩; refine ⟨_, rfl, ?_⟩; have HO593 := Aside0.mk (Kd.S_lower (Kd.S_new' ho0 (Kd.S_lt (sdl HO_9))) (below_size (bel1 HB GE583))); replace HO_9 := Aside0.mk (Kd.S_elder' (sdl HO_9) (Kd.S_base ho0) hb); replace BK583 := bkb BK583 hb; replace HB := Aside0.mk (below_step (bel1 HB GE583) hb); (try clear hb); (try clear ho0)) | ((with_reducible refine gate_dst (N := 12) rfl ?_); (try (refine gate_guard (by rfl) ?_; dsimp only)); refine box_event ?hg (N := 12) ?hd (cs := #[.slice none 0 0]) (t := 26) ?hr ?_; (case hd | hg => rfl); (case hr => go_simp); intro gb596 hg w46 hbox hb; replace HO_9 := Aside0.mk (Kd.S_below (sdl HO_9) hb); replace HO593 := Aside0.mk (Kd.S_below (sdl HO593) hb); have BK596 := Aside0.mk (hbox); have GW596 := gsb (w := w) hg (bel1 HB GE583); have GE596 := gsb (w := w) hg (bel1 HB GE583); replace HB := Aside0.mk (below_step (bel1 HB GE583) hb); have NB583_596 := nbl hg BK583; have NB596_583 := nbr hg BK583; replace BK583 := bkb BK583 hb; clear hb hbox hg; obtain ⟨Ao47, co47, eo47⟩ := Kd.S_slice HO593.out; subst eo47; have hnb48 := NB596_583.out; have hnc48 := NB583_596.out; obtain ⟨_, _⟩ := bf1 BK596))
    go_roundg k2
    case measure => have := HK1.out; have := HK2.out; omega
    case rel => exact ⟨(x9_2), (wrap64 (x35_2 + 1)), (by rfl ), H', ⟨by have := HK1.out; have := HK2.out; omega⟩, ⟨by exact Kd.S_mono (Kd.S_far (p := ⟨gb596, 0, none⟩) (Kd.S_types HO_9.out BK596.out (by decide)) (fun _ hk => hk.2) (.slice Ao47 t591.length co47)) (fun _ hk => trivial)⟩, ⟨by refine blk_far ?_ NB583_596.out _; exact BK583.out⟩, ⟨bel2 HB GE583 GE596⟩⟩
   subst c20
   replace H : ((impl_yardFindings.f k2 t591 l1 a2).bind fun t597 => (if (t597.length : Int) < (t585.length : Int) then (if x9_2.length < 5864062014805 then (impl_HelpfulMoves.l1 k2 l1 a2 (t585.length : Int) (x9_2 ++ [(([x29_1, x35_2] : List Int))]) x29_1 (l0_0.length : Int) x29_1 (l0_0.length : Int) (wrap64 (x35_2 + 1)) l0_0) else (none)) else (impl_HelpfulMoves.l1 k2 l1 a2 (t585.length : Int) x9_2 x29_1 (l0_0.length : Int) x29_1 (l0_0.length : Int) (wrap64 (x35_2 + 1)) l0_0))) = some (r1, r2) := by rw [if_pos rfl] at H; exact H
   obtain ⟨t597, A21, H⟩ := bnd H
   try dsimp only at H
   by_cases c22 : (t597.length : Int) < (t585.length : Int)
   rotate_left
   ·rw [if_neg c22] at H
    have c22b0 : decide ((t597.length : Int) < (t585.length : Int)) = false := decide_eq_false c22
    have c22b1 : decide (t597.length < t585.length) = false := decide_eq_false (fun h => c22 (Int.ofNat_lt.mpr h))
    clear c22
    have H' := Aside0.mk H
    clear H
    have hcz36_0 := bc BK583 0
    have hfz36_0 := blk_frozen BK583.out 0
    go_wp2_with (first | ((with_reducible refine gate_callee (f := 30) rfl ?_); refine goesL_ (some 42) rfl rfl Try.func30 (by kernel_rfl) rfl #[.agg #[.slice A0_0 l0_0.length c0_0], .int .i64 x29_1, .int .i64 x35_2] rfl gmp ?_; (with_reducible refine (impl_MoveTop.calls k2 _ _ l0_0 x29_1 x35_2 t591 t594 true _ ?side1 ?side2 A19.out).mono ?_); (case side1 => exact cdl (Kd.C_below HR0_0.out HB.out)); (case side2 => exact HC0_0.out); rintro e w37 ⟨v592, rfl, ho0, hb⟩; refine ⟨_, rfl, ?_⟩; have HO593 := Aside0.mk (Kd.S_lower (Kd.S_new' ho0 (Kd.S_lt (sdl HO_9))) (below_size (bel1 HB GE583))); replace HO_9 := Aside0.mk (Kd.S_elder' (sdl HO_9) (Kd.S_base ho0) hb); replace BK583 := bkb BK583 hb; replace HB := Aside0.mk (below_step (bel1 HB GE583) hb); (try clear hb); (try clear ho0)) | ((with_reducible refine gate_dst (N := 12) rfl ?_); (try (refine gate_guard (by rfl) ?_; dsimp only)); refine box_event ?hg (N := 12) ?hd (cs := #[.slice none 0 0]) (t := 26) ?hr ?_; (case hd | hg => rfl); (case hr => go_simp); intro gb596 hg w38 hbox hb; replace HO_9 := Aside0.mk (Kd.S_below (sdl HO_9) hb); replace HO593 := Aside0.mk (Kd.S_below (sdl HO593) hb); have BK596 := Aside0.mk (hbox); have GW596 := gsb (w := w) hg (bel1 HB GE583); have GE596 := gsb (w := w) hg (bel1 HB GE583); replace HB := Aside0.mk (below_step (bel1 HB GE583) hb); have NB583_596 := nbl hg BK583; have NB596_583 := nbr hg BK583; replace BK583 := bkb BK583 hb; clear hb hbox hg; obtain ⟨Ao39, co39, eo39⟩ := Kd.S_slice HO593.out; subst eo39; have hnb40 := NB596_583.out; have hnc40 := NB583_596.out; have hcz41_0 := bc BK596 0; have hfz41_0 := blk_frozen BK596.out 0) | (go_at_call 28; (with_reducible refine (impl_yardFindings.calls k2 _ _ t591 _ _ l1 a2 t597 _ ?side1 ?side2 ?side3 ?side4 A21.out).mono ?_); (case side1 => refine (Kd.S_reads' (e := 30) (base := w.heap.size) (ok := fun k_ => (True ∧ some k_ ≠ (u9 : Value).ownBlock)) (n := t591.length) (c := co39) ?_).2.2; exact (by exact (Kd.S_mono (Kd.S_far (p := ⟨gb596, 0, none⟩) (Kd.S_types HO593.out BK596.out (by decide)) (fun _ hk => hk.2) (.slice Ao39 t591.length co39)) (fun _ h_ => h_.1)))); (case side2 => exact (Kd.S_reads' HO593.out).2.1); (case side3 => exact Kd.C_below HR1.out (bel2 HB GE583 GE596)); (case side4 => exact HC1.out); rintro e w42 ⟨v598, rfl, ho0, hb⟩; replace HO_9 := Aside0.mk (Kd.S_below (by exact (Kd.S_mono (Kd.S_far (p := ⟨gb596, 0, none⟩) (Kd.S_types HO_9.out BK596.out (by decide)) (fun _ hk => hk.2) (.slice Ao39 t591.length co39)) (fun _ h_ => h_.1))) hb); replace HO593 := Aside0.mk (Kd.S_below (by exact (Kd.S_mono (Kd.S_far (p := ⟨gb596, 0, none⟩) (Kd.S_types HO593.out BK596.out (by decide)) (fun _ hk => hk.2) (.slice Ao39 t591.length co39)) (fun _ h_ => h_.1))) hb); have HO599 := Aside0.mk (Kd.R_lower ho0 (below_size (bel2 HB GE583 GE596))); replace BK583 := Aside0.mk (blk_below (g := gb583) (o := .cells #[.slice A0_0 l0_0.length c0_0] 26 (0, 0)) (blk_far BK583.out NB583_596.out _) hb); replace BK596 := Aside0.mk (blk_below (g := gb596) (o := .cells #[.slice Ao39 t591.length co39] 26 (0, 0)) (blk_put BK596.out 0 _ rfl) hb); replace HB := Aside0.mk (below_step (bel2 HB GE583 GE596) hb); (try clear hb); (try clear ho0); obtain ⟨Ao43, co43, eo43⟩ := Kd.R_slice HO599.out; subst eo43))
    go_roundg k2
    case measure => have := HK1.out; have := HK2.out; omega
    case rel => exact ⟨(x9_2), (wrap64 (x35_2 + 1)), (by rfl ), H', ⟨by have := HK1.out; have := HK2.out; omega⟩, ⟨by exact Kd.S_mono HO_9.out (fun _ hk => trivial)⟩, ⟨bkl BK583⟩, ⟨bel2 HB GE583 GE596⟩⟩
   rw [if_pos c22] at H
   have c22b0 : decide ((t597.length : Int) < (t585.length : Int)) = true := decide_eq_true c22
   have c22b1 : decide (t597.length < t585.length) = true := decide_eq_true (Int.ofNat_lt.mp c22)
   clear c22
   obtain ⟨y600, hy600⟩ : ∃ y_ : List Int, y_ = (([x29_1, x35_2] : List Int)) := ⟨_, rfl⟩
   replace H : (if x9_2.length < 5864062014805 then (impl_HelpfulMoves.l1 k2 l1 a2 (t585.length : Int) (x9_2 ++ [y600]) x29_1 (l0_0.length : Int) x29_1 (l0_0.length : Int) (wrap64 (x35_2 + 1)) l0_0) else (none)) = some (r1, r2) := by (rw [hy600]; with_reducible exact H) 
   have Ny600 := Aside0.mk hy600
   clear hy600
   by_cases c23 : x9_2.length < 5864062014805
   rotate_left
   ·rw [if_neg c23] at H
    exact absurd H (by simp)
   rw [if_pos c23] at H
   have LMc23 := Aside0.mk c23
   clear c23
   obtain ⟨y603, hy603⟩ : ∃ y_ : List (List Int), y_ = (x9_2 ++ [y600]) := ⟨_, rfl⟩
   replace H : (impl_HelpfulMoves.l1 k2 l1 a2 (t585.length : Int) y603 x29_1 (l0_0.length : Int) x29_1 (l0_0.length : Int) (wrap64 (x35_2 + 1)) l0_0) = some (r1, r2) := by (rw [hy603]; with_reducible exact H) 
   have Ny603 := Aside0.mk hy603
   clear hy603
   have H' := Aside0.mk H
   clear H
   have hcz24_0 := bc BK583 0
   have hfz24_0 := blk_frozen BK583.out 0
   go_wp2_with (first | ((with_reducible refine gate_callee (f := 30) rfl ?_); refine goesL_ (some 42) rfl rfl Try.func30 (by kernel_rfl) rfl #[.agg #[.slice A0_0 l0_0.length c0_0], .int .i64 x29_1, .int .i64 x35_2] rfl gmp ?_; (with_reducible refine (impl_MoveTop.calls k2 _ _ l0_0 x29_1 x35_2 t591 t594 true _ ?side1 ?side2 A19.out).mono ?_); (case side1 => exact cdl (Kd.C_below HR0_0.out HB.out)); (case side2 => exact HC0_0.out); rintro e w25 ⟨v592, rfl, ho0, hb⟩; refine ⟨_, rfl, ?_⟩; have HO593 := Aside0.mk (Kd.S_lower (Kd.S_new' ho0 (Kd.S_lt (sdl HO_9))) (below_size (bel1 HB GE583))); replace HO_9 := Aside0.mk (Kd.S_elder' (sdl HO_9) (Kd.S_base ho0) hb); replace BK583 := bkb BK583 hb; replace HB := Aside0.mk (below_step (bel1 HB GE583) hb); (try clear hb); (try clear ho0)) | ((with_reducible refine gate_dst (N := 12) rfl ?_); (try (refine gate_guard (by rfl) ?_; dsimp only)); refine box_event ?hg (N := 12) ?hd (cs := #[.slice none 0 0]) (t := 26) ?hr ?_; (case hd | hg => rfl); (case hr => go_simp); intro gb596 hg w26 hbox hb; replace HO_9 := Aside0.mk (Kd.S_below (sdl HO_9) hb); replace HO593 := Aside0.mk (Kd.S_below (sdl HO593) hb); have BK596 := Aside0.mk (hbox); have GW596 := gsb (w := w) hg (bel1 HB GE583); have GE596 := gsb (w := w) hg (bel1 HB GE583); replace HB := Aside0.mk (below_step (bel1 HB GE583) hb); have NB583_596 := nbl hg BK583; have NB596_583 := nbr hg BK583; replace BK583 := bkb BK583 hb; clear hb hbox hg; obtain ⟨Ao27, co27, eo27⟩ := Kd.S_slice HO593.out; subst eo27; have hnb28 := NB596_583.out; have hnc28 := NB583_596.out; obtain ⟨_, _⟩ := bf1 BK596) | (go_at_call 28; (with_reducible refine (impl_yardFindings.calls k2 _ _ t591 _ _ l1 a2 t597 _ ?side1 ?side2 ?side3 ?side4 A21.out).mono ?_); (case side1 => refine (Kd.S_reads' (e := 30) (base := w.heap.size) (ok := fun k_ => (True ∧ some k_ ≠ (u9 : Value).ownBlock)) (n := t591.length) (c := co27) ?_).2.2; exact (by exact (Kd.S_mono (Kd.S_far (p := ⟨gb596, 0, none⟩) (Kd.S_types HO593.out BK596.out (by decide)) (fun _ hk => hk.2) (.slice Ao27 t591.length co27)) (fun _ h_ => h_.1)))); (case side2 => exact (Kd.S_reads' HO593.out).2.1); (case side3 => exact Kd.C_below HR1.out (bel2 HB GE583 GE596)); (case side4 => exact HC1.out); rintro e w30 ⟨v598, rfl, ho0, hb⟩; replace HO_9 := Aside0.mk (Kd.S_below (by exact (Kd.S_mono (Kd.S_far (p := ⟨gb596, 0, none⟩) (Kd.S_types HO_9.out BK596.out (by decide)) (fun _ hk => hk.2) (.slice Ao27 t591.length co27)) (fun _ h_ => h_.1))) hb); replace HO593 := Aside0.mk (Kd.S_below (by exact (Kd.S_mono (Kd.S_far (p := ⟨gb596, 0, none⟩) (Kd.S_types HO593.out BK596.out (by decide)) (fun _ hk => hk.2) (.slice Ao27 t591.length co27)) (fun _ h_ => h_.1))) hb); have HO599 := Aside0.mk (Kd.R_lower ho0 (below_size (bel2 HB GE583 GE596))); replace BK583 := Aside0.mk (blk_below (g := gb583) (o := .cells #[.slice A0_0 l0_0.length c0_0] 26 (0, 0)) (blk_far BK583.out NB583_596.out _) hb); replace BK596 := Aside0.mk (blk_below (g := gb596) (o := .cells #[.slice Ao27 t591.length co27] 26 (0, 0)) (blk_put BK596.out 0 _ rfl) hb); replace HB := Aside0.mk (below_step (bel2 HB GE583 GE596) hb); (try clear hb); (try clear ho0); obtain ⟨Ao31, co31, eo31⟩ := Kd.R_slice HO599.out; subst eo31) | ((with_reducible refine gate_dst (N := 59) rfl ?_); (try (refine gate_guard (by rfl) ?_; dsimp only)); refine Kd.R_lit (Kd.int .i64) _ 3 ?hg (N := 59) ?hd (xs := ([x29_1, x35_2] : List Int)) (inner := [.int .i64 x29_1, .int .i64 x35_2]) (ok := fun _ => True) (okp := fun _ => True) ?hr ?hp (fun _ hk => hk) trivial (Below.refl _ _) (Nat.le_refl _) (by simp) ?_; (case hd | hg => rfl); (case hr => go_simp); (case hp => exact (Reps.one (show Kd.M (Kd.int .i64) _ _ _ x29_1 [.int .i64 x29_1] from rfl) (Reps.one (show Kd.M (Kd.int .i64) _ _ _ x35_2 [.int .i64 x35_2] from rfl) (Reps.none _ _)))); intro v601 w32 ho33 hb hg_ hnew_; clear hg_ hnew_; (rw [← Ny600.out] at ho33 ); replace HO_9 := Aside0.mk (Kd.S_elder' (sdl HO_9) (Kd.R_base ho33) hb); replace HO593 := Aside0.mk (Kd.S_elder' (sdl HO593) (Kd.R_base ho33) hb); replace HO599 := Aside0.mk (Kd.R_below (rdl HO599) hb); have HO602 := Aside0.mk (Kd.R_lower ho33 (below_size (bel2 HB GE583 GE596))); replace BK583 := bkb BK583 hb; replace BK596 := bkb BK596 hb; replace HB := Aside0.mk (below_step (bel2 HB GE583 GE596) hb); clear hb ho33; obtain ⟨Ao35, co35, eo35⟩ := Kd.R_slice HO602.out; subst eo35) | ((with_reducible refine gate_builtin (b := .append) (xs := #[.tmp 56, .tmp 60]) rfl ?_); (try (refine gate_guard (by rfl) ?_; dsimp only)); at_builtin; refine Kd.S_append (Kd.slice 3 (Kd.int .i64)) (w0 := w) w.heap.size rfl (.tmp 56) (.tmp 60) 24 30 (.slice none 0 0) 24 rfl Try.underlying24 info30 rfl (by decide) (by omega) u9 x9_2 y600 [.slice Ao35 y600.length co35] (fun k_ => some k_ ≠ (.slice Ao27 t591.length co27 : Value).ownBlock) (fun k_ => some k_ = (.slice Ao35 y600.length co35 : Value).ownBlock) rfl rfl ?aP (fun k_ hk_ => ((Kd.R_mono (ok' := fun k_ => ((fun k_ => some k_ ≠ (.slice Ao27 t591.length co27 : Value).ownBlock)) k_ ∧ some k_ ≠ (u9 : Value).ownBlock) (Kd.R_apart' (Kd.R_apart' (HO602.out) (Kd.S_typed HO593.out) (by decide)) (Kd.S_typed HO_9.out) (by decide)) (fun k_ hk => ⟨hk.1.2, hk.2⟩))).1 k_ hk_.symm) ?aF ?aO ?aB ?aS ?aL ?_; (case aP => exact Kd.M_row (Kd.R_mono (Kd.R_tight rfl (Kd.R_mono (ok' := fun k_ => ((fun k_ => some k_ ≠ (.slice Ao27 t591.length co27 : Value).ownBlock)) k_ ∧ some k_ ≠ (u9 : Value).ownBlock) (Kd.R_apart' (Kd.R_apart' (HO602.out) (Kd.S_typed HO593.out) (by decide)) (Kd.S_typed HO_9.out) (by decide)) (fun k_ hk => ⟨hk.1.2, hk.2⟩))) (fun _ h_ => h_))); (case aB => exact (bel2 HB GE583 GE596)); (case aF => exact (fun k_ hk => Kd.fresh' (Kd.S_lt (sdl HO593)) k_ hk)); (case aO => exact (by exact Kd.S_mono HO_9.out (fun k_ hk => ⟨hk.1.2, fun e_ => hk.2 e_⟩))); (case aS => exact (below_size (bel2 HB GE583 GE596))); (case aL => have := LMc23.out; omega); intro v604 w34 ho hb hg hat; rw [← Ny603.out] at ho; replace BK583 := Aside0.mk (blk_grown (g := gb583) (o := .cells #[.slice A0_0 l0_0.length c0_0] 26 (0, 0)) (bkl BK583) hg (Kd.S_ne HO_9.out BK583.out (by decide))); replace HO593 := Aside0.mk (Kd.S_after (ok := (fun k_ => some k_ ≠ (.slice Ao35 y600.length co35 : Value).ownBlock)) (by exact Kd.S_mono HO593.out (fun _ hk => ⟨hk.2, hk.1.2⟩)) hg hat); replace BK596 := Aside0.mk (blk_grown (g := gb596) (o := .cells #[.slice Ao27 t591.length co27] 26 (0, 0)) (bkl BK596) hg (Kd.S_ne HO_9.out BK596.out (by decide))); replace HO599 := Aside0.mk (Kd.R_over' (rdl HO599) (Kd.S_typed (sdl HO_9)) (by decide) hg); replace HB := Aside0.mk (hb); have HO605 := Aside0.mk (ho); clear HO_9; clear HO602; clear ho hb hg hat))
   go_roundg k2
   case measure => have := HK1.out; have := HK2.out; omega
   case rel => exact ⟨(y603), (wrap64 (x35_2 + 1)), (by rfl ), H', ⟨by have := HK1.out; have := HK2.out; omega⟩, ⟨by exact Kd.S_mono HO605.out (fun _ hk => trivial)⟩, ⟨bkl BK583⟩, ⟨bel2 HB GE583 GE596⟩⟩
/-! ### spec_l7Findings: function 31 -/
mutual
def spec_l7Findings.l0 : Nat → List (S71) → Int → List (S73) → Int → List (List Int) → Option ((List (S73)))
 | 0, _, _, _, _, _ => none
 | k + 1, x1, x2, x7, x8, x607000 => if x8 < (x607000.length : Int) then (spec_l7Findings.l1 k x1 x2 x7 x8 0 x607000) else (some x7)
def spec_l7Findings.l1 : Nat → List (S71) → Int → List (S73) → Int → Int → List (List Int) → Option ((List (S73)))
 | 0, _, _, _, _, _, _ => none
 | k + 1, x1, x2, x7, x8, x9, x607000 => if 0 ≤ x8 then (if x8 < (x607000.length : Int) then (if x9 < ((rd_L4 x607000 x8).length : Int) then ((spec_l7At.f k x607000 x1 x2 x8 x9).bind fun t611 => (if x7.length + t611.length < 5864062014805 then (spec_l7Findings.l1 k x1 x2 (x7 ++ t611) x8 (wrap64 (x9 + 1)) x607000) else (none))) else (spec_l7Findings.l0 k x1 x2 x7 (wrap64 (x8 + 1)) x607000)) else (none)) else (none)
end
def spec_l7Findings.f (k : Nat) (l0_0 : List (List Int)) (l1 : List (S71)) (a2 : Int) : Option ((List (S73))) := spec_l7Findings.l0 k l1 a2 (([] : List (S73))) 0 l0_0
set_option maxHeartbeats 8000000 in
set_option maxRecDepth 100000 in
theorem spec_l7Findings.calls (k : Nat) (A0_0 : Option Addr) (c0_0 : Nat) (l0_0 : List (List Int)) (A1 : Option Addr) (c1 : Nat) (l1 : List (S71)) (a2 : Int) (r : List (S73)) (w : World) (hr0_0 : Kd.C (Kd.slice 3 (Kd.int .i64)) w A0_0 l0_0.length l0_0) (hc0_0 : l0_0.length ≤ c0_0) (hr1 : Kd.C k71 w A1 l1.length l1) (hc1 : l1.length ≤ c1) (h : spec_l7Findings.f k l0_0 l1 a2 = some r) :
  Calls Try.prog 31 #[.agg #[.slice A0_0 l0_0.length c0_0], .slice A1 l1.length c1, .int .i64 a2] w fun e w' => ∃ v0_ : Value, e = .returned (v0_) ∧ Kd.R k73 73 w' w.heap.size (fun _ => True) v0_ r ∧ Below w.heap.size w w' := by
 have hu26 := Try.underlying26
 have HR0_0 := Aside0.mk hr0_0
 have HC0_0 := Aside0.mk hc0_0
 clear hr0_0 hc0_0
 have HR1 := Aside0.mk hr1
 have HC1 := Aside0.mk hc1
 clear hr1 hc1
 have HB := Aside0.mk (Below.refl w.heap.size w)
 have H : (spec_l7Findings.l0 k l1 a2 (([] : List (S73))) 0 l0_0) = some r := h
 clear h
 obtain ⟨y607, hy607⟩ : ∃ y_ : List (S73), y_ = (([] : List (S73))) := ⟨_, rfl⟩
 replace H : (spec_l7Findings.l0 k l1 a2 y607 0 l0_0) = some r := by (rw [hy607]; with_reducible exact H) 
 have Ny607 := Aside0.mk hy607
 clear hy607
 have H' := Aside0.mk H
 clear H
 go_enter Try.func31, Try.ntmps31
 go_wp2_with (first | ((with_reducible refine gate_dst (N := 3) rfl ?_); refine box_event ?hg (N := 3) ?hd (cs := #[.slice A0_0 l0_0.length c0_0]) (t := 26) ?hr ?_; (case hd | hg => rfl); (case hr => go_simp); intro gb606 hg w4 hbox hb; have BK606 := Aside0.mk (hbox); have GW606 := gsb (w := w) hg (bel HB); have GE606 := gsb (w := w) hg (bel HB); replace HB := Aside0.mk (below_step (bel HB) hb); clear hb hbox hg) | ((with_reducible refine gate_dst (N := 10) rfl ?_); refine Kd.R_lit k73 _ 73 ?hg (N := 10) ?hd (xs := ([] : List (S73))) (inner := []) (ok := fun _ => True) (okp := fun _ => True) ?hr ?hp (fun _ hk => hk) trivial (Below.refl _ _) (Nat.le_refl _) (by simp) ?_; (case hd | hg => rfl); (case hr => go_simp); (case hp => exact (Reps.none _ _)); intro v608 w5 ho6 hb hg_ hnew_; clear hg_ hnew_; (rw [← Ny607.out] at ho6 ); have HO609 := Aside0.mk (Kd.R_lower ho6 (below_size (bel1 HB GE606))); replace BK606 := bkb BK606 hb; replace HB := Aside0.mk (below_step (bel1 HB GE606) hb); clear hb ho6))
 go_loopg [7, 8] k (fun kq v7 v8 w' => ∃ (x7_1 : List (S73)) (x8_1 : Int), v8 = .int .i64 x8_1 ∧ Aside0 (spec_l7Findings.l0 kq l1 a2 x7_1 x8_1 l0_0 = some r) ∧ Aside0 (kq ≤ k) ∧ Aside0 (Kd.R k73 73 w' w.heap.size (fun _ => True) v7 x7_1) ∧ Aside0 (w'.heap[gb606]? = some (.cells #[(.slice A0_0 l0_0.length c0_0)] 26 (0, 0))) ∧ Aside0 (Below w.heap.size w w'))
 case atStart => exact ⟨(y607), (0), (by rfl ), H', ⟨Nat.le_refl _⟩, ⟨rdl HO609⟩, ⟨bkl BK606⟩, ⟨bel1 HB GE606⟩⟩
 clear H'
 obtain ⟨x7_1, x8_1, rfl, HA, HK1, HO_7, BK606, HB⟩ := hrel
 cases gk with
 | zero => exact absurd HA.out (by simp [spec_l7Findings.l0])
 | succ k1 =>
  have H := HA.out
  clear HA
  simp only [spec_l7Findings.l0] at H
  by_cases c7 : x8_1 < (l0_0.length : Int)
  rotate_left
  ·rw [if_neg c7] at H
   have c7b0 : decide (x8_1 < (l0_0.length : Int)) = false := decide_eq_false c7
   clear c7
   obtain rfl := Option.some.inj H
   have hcz19_0 := bc BK606 0
   have hfz19_0 := blk_frozen BK606.out 0
   go_wp2
   go_ret
   exact ⟨_, by rfl , rdl HO_7, bel1 HB GE606⟩
  rw [if_pos c7] at H
  have c7b0 : decide (x8_1 < (l0_0.length : Int)) = true := decide_eq_true c7
  clear c7
  have H' := Aside0.mk H
  clear H
  have hcz8_0 := bc BK606 0
  have hfz8_0 := blk_frozen BK606.out 0
  go_wp2
  go_loopg [7, 9] k1 (fun kq v7 v9 w' => ∃ (x7_2 : List (S73)) (x9_2 : Int), v9 = .int .i64 x9_2 ∧ Aside0 (spec_l7Findings.l1 kq l1 a2 x7_2 x8_1 x9_2 l0_0 = some r) ∧ Aside0 (kq ≤ k1) ∧ Aside0 (Kd.R k73 73 w' w.heap.size (fun _ => True) v7 x7_2) ∧ Aside0 (w'.heap[gb606]? = some (.cells #[(.slice A0_0 l0_0.length c0_0)] 26 (0, 0))) ∧ Aside0 (Below w.heap.size w w'))
  case atStart => exact ⟨(x7_1), (0), (by rfl ), H', ⟨Nat.le_refl _⟩, ⟨rdl HO_7⟩, ⟨bkl BK606⟩, ⟨bel1 HB GE606⟩⟩
  clear H'
  try clear c7b0
  try clear hcz8_0
  try clear hfz8_0
  obtain ⟨x7_2, x9_2, rfl, HA, HK2, HO_7, BK606, HB⟩ := hrel
  cases gk with
  | zero => exact absurd HA.out (by simp [spec_l7Findings.l1])
  | succ k2 =>
   have H := HA.out
   clear HA
   simp only [spec_l7Findings.l1] at H
   by_cases c9 : 0 ≤ x8_1
   rotate_left
   ·rw [if_neg c9] at H
    exact absurd H (by simp)
   rw [if_pos c9] at H
   have c9b0 : decide (0 ≤ x8_1) = true := decide_eq_true c9
   clear c9
   by_cases c10 : x8_1 < (l0_0.length : Int)
   rotate_left
   ·rw [if_neg c10] at H
    exact absurd H (by simp)
   rw [if_pos c10] at H
   have c10b0 : decide (x8_1 < (l0_0.length : Int)) = true := decide_eq_true c10
   clear c10
   by_cases c11 : x9_2 < ((rd_L4 l0_0 x8_1).length : Int)
   rotate_left
   ·rw [if_neg c11] at H
    have c11b0 : decide (x9_2 < ((rd_L4 l0_0 x8_1).length : Int)) = false := decide_eq_false c11
    clear c11
    have H' := Aside0.mk H
    clear H
    have hcz18_0 := bc BK606 0
    have hfz18_0 := blk_frozen BK606.out 0
    have p610 : 0 ≤ (x8_1 : Int) := oda
    have q610 : x8_1 < (l0_0.length : Int) := oda
    obtain ⟨ad610, A610_0, c610_0, e610, hx610_0, hl610_0, hi610_0⟩ := at_L4 HR0_0.out x8_1 p610 q610
    cases e610
    replace hx610_0 := cel HB hx610_0
    have HR610_0 := Aside0.mk hi610_0
    have HC610_0 := Aside0.mk hl610_0
    clear hi610_0 hl610_0
    replace p610 := eq_true p610
    replace q610 := eq_true q610
    go_wp2
    go_roundg k2
    case measure => have := HK1.out; have := HK2.out; omega
    case rel => exact ⟨(x7_2), (wrap64 (x8_1 + 1)), (by rfl ), H', ⟨by have := HK1.out; have := HK2.out; omega⟩, ⟨rdl HO_7⟩, ⟨bkl BK606⟩, ⟨bel1 HB GE606⟩⟩
   rw [if_pos c11] at H
   have c11b0 : decide (x9_2 < ((rd_L4 l0_0 x8_1).length : Int)) = true := decide_eq_true c11
   clear c11
   obtain ⟨t611, A12, H⟩ := bnd H
   try dsimp only at H
   by_cases c13 : x7_2.length + t611.length < 5864062014805
   rotate_left
   ·rw [if_neg c13] at H
    exact absurd H (by simp)
   rw [if_pos c13] at H
   have LMc13 := Aside0.mk c13
   clear c13
   obtain ⟨y614, hy614⟩ : ∃ y_ : List (S73), y_ = (x7_2 ++ t611) := ⟨_, rfl⟩
   replace H : (spec_l7Findings.l1 k2 l1 a2 y614 x8_1 (wrap64 (x9_2 + 1)) l0_0) = some r := by (rw [hy614]; with_reducible exact H) 
   have Ny614 := Aside0.mk hy614
   clear hy614
   have H' := Aside0.mk H
   clear H
   have hcz14_0 := bc BK606 0
   have hfz14_0 := blk_frozen BK606.out 0
   have p610 : 0 ≤ (x8_1 : Int) := oda
   have q610 : x8_1 < (l0_0.length : Int) := oda
   obtain ⟨ad610, A610_0, c610_0, e610, hx610_0, hl610_0, hi610_0⟩ := at_L4 HR0_0.out x8_1 p610 q610
   cases e610
   replace hx610_0 := cel HB hx610_0
   have HR610_0 := Aside0.mk hi610_0
   have HC610_0 := Aside0.mk hl610_0
   clear hi610_0 hl610_0
   replace p610 := eq_true p610
   replace q610 := eq_true q610
   go_wp2_with (first | ((with_reducible refine gate_callee (f := 27) rfl ?_); refine goesL_ (some 34) rfl rfl Try.func27 (by kernel_rfl) rfl #[.agg #[.slice (some ad610) l0_0.length c0_0], .slice A1 l1.length c1, .int .i64 a2, .int .i64 x8_1, .int .i64 x9_2] rfl gmp ?_; (with_reducible refine (spec_l7At.calls k2 _ _ l0_0 _ _ l1 a2 x8_1 x9_2 t611 _ ?side1 ?side2 ?side3 ?side4 A12.out).mono ?_); (case side1 => exact cdl (Kd.C_below HR0_0.out HB.out)); (case side2 => exact HC0_0.out); (case side3 => exact cdl (Kd.C_below HR1.out HB.out)); (case side4 => exact HC1.out); rintro e w15 ⟨v612, rfl, ho0, hb⟩; refine ⟨_, rfl, ?_⟩; have HO613 := Aside0.mk (Kd.R_lower (Kd.R_new' ho0 (Kd.R_lt (rdl HO_7))) (below_size (bel1 HB GE606))); replace HO_7 := Aside0.mk (Kd.R_elder' (rdl HO_7) (Kd.R_base ho0) hb); replace BK606 := bkb BK606 hb; replace HB := Aside0.mk (below_step (bel1 HB GE606) hb); (try clear hb); (try clear ho0); obtain ⟨Ao17, co17, eo17⟩ := Kd.R_slice HO613.out; subst eo17) | ((with_reducible refine gate_builtin (b := .append) (xs := #[.tmp 28, .tmp 34]) rfl ?_); at_builtin; refine Kd.R_append_rows k73 (w0 := w) w.heap.size rfl (.tmp 28) (.tmp 34) 34 73 (.agg #[(.int .i64 0), (.int .i64 0), (.int .i64 0)]) 24 rfl Try.underlying34 info73 rfl (by decide) (by omega) u7 x7_2 t611 _ _ _ (fun k_ => some k_ ≠ (.slice Ao17 t611.length co17 : Value).ownBlock) (fun _ => False) rfl rfl ?aO ?aR (fun _ _ h => h) (fun _ h => h.elim) ?aF ?aB ?aS ?aL ?_; (case aR => repeat (exact (Kd.R_reads' HO613.out).2.2 )); (case aB => exact (bel1 HB GE606)); (case aF => exact (fun k_ hk => Kd.fresh' (Kd.R_lt (rdl HO613)) k_ hk)); (case aO => exact (by exact Kd.R_mono HO_7.out (fun _ hk => hk.2))); (case aS => exact (below_size (bel1 HB GE606))); (case aL => have := LMc13.out; omega); intro v615 w16 ho hb hg hat; rw [← Ny614.out] at ho; replace BK606 := Aside0.mk (blk_grown (g := gb606) (o := .cells #[.slice (some ad610) l0_0.length c0_0] 26 (0, 0)) (bkl BK606) hg (Kd.R_ne HO_7.out BK606.out (by decide))); replace HO613 := Aside0.mk (Kd.R_after (ok := (fun _ => True)) (rdl HO613) hg hat); replace HB := Aside0.mk (hb); have HO616 := Aside0.mk (ho); clear HO_7; clear ho hb hg hat))
   go_roundg k2
   case measure => have := HK1.out; have := HK2.out; omega
   case rel => exact ⟨(y614), (wrap64 (x9_2 + 1)), (by rfl ), H', ⟨by have := HK1.out; have := HK2.out; omega⟩, ⟨by exact Kd.R_mono HO616.out (fun _ hk => trivial)⟩, ⟨bkl BK606⟩, ⟨bel1 HB GE606⟩⟩
/-! ### spec_HelpfulMoves: function 12 -/
mutual
def spec_HelpfulMoves.l0 : Nat → List (S71) → Int → List (List Int) → Int → Int → List (List Int) → Option ((List (List Int)) × Bool)
 | 0, _, _, _, _, _, _ => none
 | k + 1, x1, x2, x8, x9, x10, x618000 => if x10 < (x618000.length : Int) then (spec_HelpfulMoves.l1 k x1 x2 x8 x9 x10 0 x618000) else (some (x8, true))
def spec_HelpfulMoves.l1 : Nat → List (S71) → Int → List (List Int) → Int → Int → Int → List (List Int) → Option ((List (List Int)) × Bool)
 | 0, _, _, _, _, _, _, _ => none
 | k + 1, x1, x2, x8, x9, x10, x11, x618000 => if x11 < (x618000.length : Int) then (if x10 = x11 then (spec_HelpfulMoves.j2 k x1 x2 x8 x9 x10 x11 true x618000) else (if 0 ≤ x10 then (if x10 < (x618000.length : Int) then (if ((rd_L4 x618000 x10).length : Int) = 0 then (spec_HelpfulMoves.j2 k x1 x2 x8 x9 x10 x11 true x618000) else (if 0 ≤ x11 then (spec_HelpfulMoves.j2 k x1 x2 x8 x9 x10 x11 (((rd_L4 x618000 x11).length : Int) == 4) x618000) else (none))) else (none)) else (none))) else (spec_HelpfulMoves.l0 k x1 x2 x8 x9 (wrap64 (x10 + 1)) x618000)
def spec_HelpfulMoves.j2 : Nat → List (S71) → Int → List (List Int) → Int → Int → Int → Bool → List (List Int) → Option ((List (List Int)) × Bool)
 | 0, _, _, _, _, _, _, _, _ => none
 | k + 1, x1, x2, x8, x9, x10, x11, x58, x618000 => if x58 = true then (spec_HelpfulMoves.l1 k x1 x2 x8 x9 x10 (wrap64 (x11 + 1)) x618000) else ((spec_l5Move.f k x618000 x10 x11).bind fun t627 => ((spec_l7Findings.f k t627 x1 x2).bind fun t630 => (if (t630.length : Int) < x9 then (if x8.length < 5864062014805 then (spec_HelpfulMoves.l1 k x1 x2 (x8 ++ [(([x10, x11] : List Int))]) x9 x10 (wrap64 (x11 + 1)) x618000) else (none)) else (spec_HelpfulMoves.l1 k x1 x2 x8 x9 x10 (wrap64 (x11 + 1)) x618000))))
end
def spec_HelpfulMoves.f (k : Nat) (l0_0 : List (List Int)) (l1 : List (S71)) (a2 : Int) : Option ((List (List Int)) × Bool) := (some (([] : List (List Int)) : List (List Int))).bind fun y618 => ((spec_l7Asked.f k l0_0 l1 a2).bind fun t621 => (if t621 = true then ((spec_l7Findings.f k l0_0 l1 a2).bind fun t622 => (spec_HelpfulMoves.l0 k l1 a2 y618 (t622.length : Int) 0 l0_0)) else (some (y618, false))))
set_option maxHeartbeats 8000000 in
set_option maxRecDepth 100000 in
theorem spec_HelpfulMoves.calls (k : Nat) (A0_0 : Option Addr) (c0_0 : Nat) (l0_0 : List (List Int)) (A1 : Option Addr) (c1 : Nat) (l1 : List (S71)) (a2 : Int) (r1 : List (List Int)) (r2 : Bool) (w : World) (hr0_0 : Kd.C (Kd.slice 3 (Kd.int .i64)) w A0_0 l0_0.length l0_0) (hc0_0 : l0_0.length ≤ c0_0) (hr1 : Kd.C k71 w A1 l1.length l1) (hc1 : l1.length ≤ c1) (h : spec_HelpfulMoves.f k l0_0 l1 a2 = some (r1, r2)) :
  Calls Try.prog 12 #[.agg #[.slice A0_0 l0_0.length c0_0], .slice A1 l1.length c1, .int .i64 a2] w fun e w' => ∃ v0_ : Value, e = .returned (.tuple #[v0_, .bool r2]) ∧ Kd.S (Kd.slice 3 (Kd.int .i64)) 30 w' w.heap.size (fun _ => True) v0_ r1 ∧ Below w.heap.size w w' := by
 have hu26 := Try.underlying26
 have HR0_0 := Aside0.mk hr0_0
 have HC0_0 := Aside0.mk hc0_0
 clear hr0_0 hc0_0
 have HR1 := Aside0.mk hr1
 have HC1 := Aside0.mk hc1
 clear hr1 hc1
 have HB := Aside0.mk (Below.refl w.heap.size w)
 have H : ((some (([] : List (List Int)) : List (List Int))).bind fun y618 => ((spec_l7Asked.f k l0_0 l1 a2).bind fun t621 => (if t621 = true then ((spec_l7Findings.f k l0_0 l1 a2).bind fun t622 => (spec_HelpfulMoves.l0 k l1 a2 y618 (t622.length : Int) 0 l0_0)) else (some (y618, false))))) = some (r1, r2) := h
 clear h
 obtain ⟨y618, hy618⟩ : ∃ y_ : List (List Int), y_ = (([] : List (List Int))) := ⟨_, rfl⟩
 replace H : ((spec_l7Asked.f k l0_0 l1 a2).bind fun t621 => (if t621 = true then ((spec_l7Findings.f k l0_0 l1 a2).bind fun t622 => (spec_HelpfulMoves.l0 k l1 a2 y618 (t622.length : Int) 0 l0_0)) else (some (y618, false)))) = some (r1, r2) := by (have H2_ := (Option.bind_some _ _).symm.trans H; rw [hy618]; with_reducible exact H2_) 
 have Ny618 := Aside0.mk hy618
 clear hy618
 obtain ⟨t621, A4, H⟩ := bnd H
 try dsimp only at H
 by_cases c5 : t621 = true
 rotate_left
 ·replace c5 := Bool.eq_false_iff.mpr c5
  subst c5
  replace H : (some (y618, false)) = some (r1, r2) := by rw [if_neg (show ¬ (false = true) by decide)] at H; exact H
  simp only [Option.some.injEq, Prod.mk.injEq] at H
  obtain ⟨rfl, rfl⟩ := H
  go_enter Try.func12, Try.ntmps12
  go_wp2_with (first | ((with_reducible refine gate_dst (N := 3) rfl ?_); (try (refine gate_guard (by rfl) ?_; dsimp only)); refine box_event ?hg (N := 3) ?hd (cs := #[.slice A0_0 l0_0.length c0_0]) (t := 26) ?hr ?_; (case hd | hg => rfl); (case hr => go_simp); intro gb617 hg w48 hbox hb; have BK617 := Aside0.mk (hbox); have GW617 := gsb (w := w) hg (bel HB); have GE617 := gsb (w := w) hg (bel HB); replace HB := Aside0.mk (below_step (bel HB) hb); clear hb hbox hg) | ((with_reducible refine gate_dst (N := 12) rfl ?_); (try (refine gate_guard (by rfl) ?_; dsimp only)); refine Kd.S_lit (Kd.slice 3 (Kd.int .i64)) _ 30 ?hg (N := 12) ?hd (xs := ([] : List (List Int))) (inner := []) (ok := fun _ => True) (okp := fun _ => True) ?hr ?hp (fun _ hk => hk) trivial (Below.refl _ _) (Nat.le_refl _) (by simp) ?_; (case hd | hg => rfl); (case hr => go_simp); (case hp => exact (Reps.none _ _)); intro v619 w49 ho50 hb hg_ hnew_; clear hg_ hnew_; (rw [← Ny618.out] at ho50 ); have HO620 := Aside0.mk (Kd.S_lower ho50 (below_size (bel1 HB GE617))); replace BK617 := bkb BK617 hb; replace HB := Aside0.mk (below_step (bel1 HB GE617) hb); clear hb ho50; have hcz51_0 := bc BK617 0; have hfz51_0 := blk_frozen BK617.out 0) | ((with_reducible refine gate_callee (f := 24) rfl ?_); refine goesL_ (some 16) rfl rfl Try.func24 (by kernel_rfl) rfl #[.agg #[.slice A0_0 l0_0.length c0_0], .slice A1 l1.length c1, .int .i64 a2] rfl gmp ?_; (with_reducible refine (spec_l7Asked.calls k _ _ l0_0 _ _ l1 a2 false _ ?side1 ?side2 ?side3 ?side4 A4.out).mono ?_); (case side1 => exact cdl (Kd.C_below HR0_0.out HB.out)); (case side2 => exact HC0_0.out); (case side3 => exact cdl (Kd.C_below HR1.out HB.out)); (case side4 => exact HC1.out); rintro e w52 ⟨rfl, hb⟩; refine ⟨_, rfl, ?_⟩; replace HO620 := Aside0.mk (Kd.S_below (sdl HO620) hb); replace BK617 := bkb BK617 hb; replace HB := Aside0.mk (below_step (bel1 HB GE617) hb); (try clear hb)))
  go_ret2
  exact ⟨_, by rfl , sdl HO620, bel1 HB GE617⟩
 subst c5
 replace H : ((spec_l7Findings.f k l0_0 l1 a2).bind fun t622 => (spec_HelpfulMoves.l0 k l1 a2 y618 (t622.length : Int) 0 l0_0)) = some (r1, r2) := by rw [if_pos rfl] at H; exact H
 obtain ⟨t622, A6, H⟩ := bnd H
 try dsimp only at H
 have H' := Aside0.mk H
 clear H
 go_enter Try.func12, Try.ntmps12
 go_wp2_with (first | ((with_reducible refine gate_dst (N := 3) rfl ?_); (try (refine gate_guard (by rfl) ?_; dsimp only)); refine box_event ?hg (N := 3) ?hd (cs := #[.slice A0_0 l0_0.length c0_0]) (t := 26) ?hr ?_; (case hd | hg => rfl); (case hr => go_simp); intro gb617 hg w7 hbox hb; have BK617 := Aside0.mk (hbox); have GW617 := gsb (w := w) hg (bel HB); have GE617 := gsb (w := w) hg (bel HB); replace HB := Aside0.mk (below_step (bel HB) hb); clear hb hbox hg) | ((with_reducible refine gate_dst (N := 12) rfl ?_); (try (refine gate_guard (by rfl) ?_; dsimp only)); refine Kd.S_lit (Kd.slice 3 (Kd.int .i64)) _ 30 ?hg (N := 12) ?hd (xs := ([] : List (List Int))) (inner := []) (ok := fun _ => True) (okp := fun _ => True) ?hr ?hp (fun _ hk => hk) trivial (Below.refl _ _) (Nat.le_refl _) (by simp) ?_; (case hd | hg => rfl); (case hr => go_simp); (case hp => exact (Reps.none _ _)); intro v619 w8 ho9 hb hg_ hnew_; clear hg_ hnew_; (rw [← Ny618.out] at ho9 ); have HO620 := Aside0.mk (Kd.S_lower ho9 (below_size (bel1 HB GE617))); replace BK617 := bkb BK617 hb; replace HB := Aside0.mk (below_step (bel1 HB GE617) hb); clear hb ho9; have hcz10_0 := bc BK617 0; have hfz10_0 := blk_frozen BK617.out 0) | ((with_reducible refine gate_callee (f := 24) rfl ?_); refine goesL_ (some 16) rfl rfl Try.func24 (by kernel_rfl) rfl #[.agg #[.slice A0_0 l0_0.length c0_0], .slice A1 l1.length c1, .int .i64 a2] rfl gmp ?_; (with_reducible refine (spec_l7Asked.calls k _ _ l0_0 _ _ l1 a2 true _ ?side1 ?side2 ?side3 ?side4 A4.out).mono ?_); (case side1 => exact cdl (Kd.C_below HR0_0.out HB.out)); (case side2 => exact HC0_0.out); (case side3 => exact cdl (Kd.C_below HR1.out HB.out)); (case side4 => exact HC1.out); rintro e w11 ⟨rfl, hb⟩; refine ⟨_, rfl, ?_⟩; replace HO620 := Aside0.mk (Kd.S_below (sdl HO620) hb); replace BK617 := bkb BK617 hb; replace HB := Aside0.mk (below_step (bel1 HB GE617) hb); (try clear hb); have hcz12_0 := bc BK617 0; have hfz12_0 := blk_frozen BK617.out 0) | ((with_reducible refine gate_callee (f := 31) rfl ?_); refine goesL_ (some 22) rfl rfl Try.func31 (by kernel_rfl) rfl #[.agg #[.slice A0_0 l0_0.length c0_0], .slice A1 l1.length c1, .int .i64 a2] rfl gmp ?_; (with_reducible refine (spec_l7Findings.calls k _ _ l0_0 _ _ l1 a2 t622 _ ?side1 ?side2 ?side3 ?side4 A6.out).mono ?_); (case side1 => exact cdl (Kd.C_below HR0_0.out HB.out)); (case side2 => exact HC0_0.out); (case side3 => exact cdl (Kd.C_below HR1.out HB.out)); (case side4 => exact HC1.out); rintro e w13 ⟨v623, rfl, ho0, hb⟩; refine ⟨_, rfl, ?_⟩; replace HO620 := Aside0.mk (Kd.S_below (sdl HO620) hb); have HO624 := Aside0.mk (Kd.R_lower ho0 (below_size (bel1 HB GE617))); replace BK617 := bkb BK617 hb; replace HB := Aside0.mk (below_step (bel1 HB GE617) hb); (try clear hb); (try clear ho0); obtain ⟨Ao14, co14, eo14⟩ := Kd.R_slice HO624.out; subst eo14))
 go_loopg [8, 10] k (fun kq v8 v10 w' => ∃ (x8_1 : List (List Int)) (x10_1 : Int), v10 = .int .i64 x10_1 ∧ Aside0 (spec_HelpfulMoves.l0 kq l1 a2 x8_1 (t622.length : Int) x10_1 l0_0 = some (r1, r2)) ∧ Aside0 (kq ≤ k) ∧ Aside0 (Kd.S (Kd.slice 3 (Kd.int .i64)) 30 w' w.heap.size (fun _ => True) v8 x8_1) ∧ Aside0 (w'.heap[gb617]? = some (.cells #[(.slice A0_0 l0_0.length c0_0)] 26 (0, 0))) ∧ Aside0 (Below w.heap.size w w'))
 case atStart => exact ⟨(y618), (0), (by rfl ), H', ⟨Nat.le_refl _⟩, ⟨sdl HO620⟩, ⟨bkl BK617⟩, ⟨bel1 HB GE617⟩⟩
 clear H'
 try clear hcz10_0
 try clear hcz12_0
 try clear hfz10_0
 try clear hfz12_0
 obtain ⟨x8_1, x10_1, rfl, HA, HK1, HO_8, BK617, HB⟩ := hrel
 cases gk with
 | zero => exact absurd HA.out (by simp [spec_HelpfulMoves.l0])
 | succ k1 =>
  have H := HA.out
  clear HA
  simp only [spec_HelpfulMoves.l0] at H
  by_cases c15 : x10_1 < (l0_0.length : Int)
  rotate_left
  ·rw [if_neg c15] at H
   have c15b0 : decide (x10_1 < (l0_0.length : Int)) = false := decide_eq_false c15
   clear c15
   simp only [Option.some.injEq, Prod.mk.injEq] at H
   obtain ⟨rfl, rfl⟩ := H
   have hcz47_0 := bc BK617 0
   have hfz47_0 := blk_frozen BK617.out 0
   go_wp2
   go_ret2
   exact ⟨_, by rfl , sdl HO_8, bel1 HB GE617⟩
  rw [if_pos c15] at H
  have c15b0 : decide (x10_1 < (l0_0.length : Int)) = true := decide_eq_true c15
  clear c15
  have H' := Aside0.mk H
  clear H
  have hcz16_0 := bc BK617 0
  have hfz16_0 := blk_frozen BK617.out 0
  go_wp2
  go_loopg [8, 11] k1 (fun kq v8 v11 w' => ∃ (x8_2 : List (List Int)) (x11_2 : Int), v11 = .int .i64 x11_2 ∧ Aside0 (spec_HelpfulMoves.l1 kq l1 a2 x8_2 (t622.length : Int) x10_1 x11_2 l0_0 = some (r1, r2)) ∧ Aside0 (kq ≤ k1) ∧ Aside0 (Kd.S (Kd.slice 3 (Kd.int .i64)) 30 w' w.heap.size (fun _ => True) v8 x8_2) ∧ Aside0 (w'.heap[gb617]? = some (.cells #[(.slice A0_0 l0_0.length c0_0)] 26 (0, 0))) ∧ Aside0 (Below w.heap.size w w'))
  case atStart => exact ⟨(x8_1), (0), (by rfl ), H', ⟨Nat.le_refl _⟩, ⟨sdl HO_8⟩, ⟨bkl BK617⟩, ⟨bel1 HB GE617⟩⟩
  clear H'
  try clear c15b0
  try clear hcz16_0
  try clear hfz16_0
  obtain ⟨x8_2, x11_2, rfl, HA, HK2, HO_8, BK617, HB⟩ := hrel
  cases gk with
  | zero => exact absurd HA.out (by simp [spec_HelpfulMoves.l1])
  | succ k2 =>
   have H := HA.out
   clear HA
   simp only [spec_HelpfulMoves.l1] at H
   by_cases c17 : x11_2 < (l0_0.length : Int)
   rotate_left
   ·rw [if_neg c17] at H
    have c17b0 : decide (x11_2 < (l0_0.length : Int)) = false := decide_eq_false c17
    clear c17
    have H' := Aside0.mk H
    clear H
    have hcz46_0 := bc BK617 0
    have hfz46_0 := blk_frozen BK617.out 0
    go_wp2
    go_roundg k2
    case measure => have := HK1.out; have := HK2.out; omega
    case rel => exact ⟨(x8_2), (wrap64 (x10_1 + 1)), (by rfl ), H', ⟨by have := HK1.out; have := HK2.out; omega⟩, ⟨sdl HO_8⟩, ⟨bkl BK617⟩, ⟨bel1 HB GE617⟩⟩
   rw [if_pos c17] at H
   have c17b0 : decide (x11_2 < (l0_0.length : Int)) = true := decide_eq_true c17
   clear c17
   have HC18 := Aside0.mk H
   clear H
   have hcz19_0 := bc BK617 0
   have hfz19_0 := blk_frozen BK617.out 0
   go_upto_region 11 with (fail)
   go_cut [58] (fun v58 wc => ∃ (kq : Nat) (x58_17 : Bool), v58 = .bool x58_17 ∧ Aside0 (spec_HelpfulMoves.j2 kq l1 a2 x8_2 (t622.length : Int) x10_1 x11_2 x58_17 l0_0 = some (r1, r2)) ∧ Aside0 (kq ≤ k2) ∧ Aside0 (Kd.S (Kd.slice 3 (Kd.int .i64)) 30 wc w.heap.size (fun _ => True) u8 x8_2) ∧ Aside0 (wc.heap[gb617]? = some (.cells #[(.slice A0_0 l0_0.length c0_0)] 26 (0, 0))) ∧ Aside0 (Below w.heap.size w wc))
   case first =>
    have H := HC18.out
    clear HC18
    by_cases c20 : x10_1 = x11_2
    ·rw [if_pos c20] at H
     have c20b0 : (x10_1 == x11_2) = true := beq_iff_eq.mpr c20
     have c20b1 : (x10_1 != x11_2) = false := bne_eq_false_iff_eq.mpr c20
     clear c20
     have H' := Aside0.mk H
     clear H
     go_wp2
     go_meet
     case rel => exact ⟨_, (true), (by rfl ), H', ⟨by have := HK1.out; have := HK2.out; omega ⟩, ⟨sdl HO_8⟩, ⟨bkl BK617⟩, ⟨bel1 HB GE617⟩⟩
    rw [if_neg c20] at H
    have c20b0 : (x10_1 == x11_2) = false := beq_eq_false_iff_ne.mpr c20
    have c20b1 : (x10_1 != x11_2) = true := bne_iff_ne.mpr c20
    by_cases c21 : 0 ≤ x10_1
    rotate_left
    ·rw [if_neg c21] at H
     exact absurd H (by simp)
    rw [if_pos c21] at H
    have c21b0 : decide (0 ≤ x10_1) = true := decide_eq_true c21
    clear c21
    by_cases c22 : x10_1 < (l0_0.length : Int)
    rotate_left
    ·rw [if_neg c22] at H
     exact absurd H (by simp)
    rw [if_pos c22] at H
    have c22b0 : decide (x10_1 < (l0_0.length : Int)) = true := decide_eq_true c22
    clear c22
    by_cases c23 : ((rd_L4 l0_0 x10_1).length : Int) = 0
    ·rw [if_pos c23] at H
     have c23b0 : (((rd_L4 l0_0 x10_1).length : Int) == 0) = true := beq_iff_eq.mpr c23
     have c23b1 : (((rd_L4 l0_0 x10_1).length : Int) != 0) = false := bne_eq_false_iff_eq.mpr c23
     clear c23
     have H' := Aside0.mk H
     clear H
     have hcz24_0 := bc BK617 0
     have hfz24_0 := blk_frozen BK617.out 0
     have p625 : 0 ≤ (x10_1 : Int) := oda
     have q625 : x10_1 < (l0_0.length : Int) := oda
     obtain ⟨ad625, A625_0, c625_0, e625, hx625_0, hl625_0, hi625_0⟩ := at_L4 HR0_0.out x10_1 p625 q625
     cases e625
     replace hx625_0 := cel HB hx625_0
     have HR625_0 := Aside0.mk hi625_0
     have HC625_0 := Aside0.mk hl625_0
     clear hi625_0 hl625_0
     replace p625 := eq_true p625
     replace q625 := eq_true q625
     go_wp2
     go_meet
     case rel => exact ⟨_, (true), (by rfl ), H', ⟨by have := HK1.out; have := HK2.out; omega ⟩, ⟨sdl HO_8⟩, ⟨bkl BK617⟩, ⟨bel1 HB GE617⟩⟩
    rw [if_neg c23] at H
    have c23b0 : (((rd_L4 l0_0 x10_1).length : Int) == 0) = false := beq_eq_false_iff_ne.mpr c23
    have c23b1 : (((rd_L4 l0_0 x10_1).length : Int) != 0) = true := bne_iff_ne.mpr c23
    have c23b2 : ¬ ((rd_L4 l0_0 x10_1) = []) := fun h_ => c23 (by rw [h_]; rfl)
    by_cases c25 : 0 ≤ x11_2
    rotate_left
    ·rw [if_neg c25] at H
     exact absurd H (by simp)
    rw [if_pos c25] at H
    have c25b0 : decide (0 ≤ x11_2) = true := decide_eq_true c25
    clear c25
    have H' := Aside0.mk H
    clear H
    have hcz26_0 := bc BK617 0
    have hfz26_0 := blk_frozen BK617.out 0
    have p625 : 0 ≤ (x10_1 : Int) := oda
    have q625 : x10_1 < (l0_0.length : Int) := oda
    obtain ⟨ad625, A625_0, c625_0, e625, hx625_0, hl625_0, hi625_0⟩ := at_L4 HR0_0.out x10_1 p625 q625
    cases e625
    replace hx625_0 := cel HB hx625_0
    have HR625_0 := Aside0.mk hi625_0
    have HC625_0 := Aside0.mk hl625_0
    clear hi625_0 hl625_0
    replace p625 := eq_true p625
    replace q625 := eq_true q625
    have p626 : 0 ≤ (x11_2 : Int) := oda
    have q626 : x11_2 < (l0_0.length : Int) := oda
    obtain ⟨ad626, A626_0, c626_0, e626, hx626_0, hl626_0, hi626_0⟩ := at_L4 HR0_0.out x11_2 p626 q626
    obtain rfl : ad625 = ad626 := (by injection e626)
    replace hx626_0 := cel HB hx626_0
    have HR626_0 := Aside0.mk hi626_0
    have HC626_0 := Aside0.mk hl626_0
    clear hi626_0 hl626_0
    replace p626 := eq_true p626
    replace q626 := eq_true q626
    go_wp2
    go_meet
    case rel => exact ⟨_, ((((rd_L4 l0_0 x11_2).length : Int) == 4)), (by rfl ), H', ⟨by have := HK1.out; have := HK2.out; omega ⟩, ⟨sdl HO_8⟩, ⟨bkl BK617⟩, ⟨bel1 HB GE617⟩⟩
   clear HC18
   try clear c17b0
   try clear hcz19_0
   try clear hfz19_0
   obtain ⟨kq, x58_17, rfl, HA, HJ17, HO_8, BK617, HB⟩ := hcut
   cases kq with
   | zero => exact absurd HA.out (by simp [spec_HelpfulMoves.j2])
   | succ kj17 =>
    have H := HA.out
    clear HA
    simp only [spec_HelpfulMoves.j2] at H
    by_cases c27 : x58_17 = true
    ·subst c27
     replace H : (spec_HelpfulMoves.l1 kj17 l1 a2 x8_2 (t622.length : Int) x10_1 (wrap64 (x11_2 + 1)) l0_0) = some (r1, r2) := by rw [if_pos rfl] at H; exact H
     have H' := Aside0.mk H
     clear H
     go_wp2
     go_roundg kj17
     case measure => have := HK1.out; have := HK2.out; have := HJ17.out; omega
     case rel => exact ⟨(x8_2), (wrap64 (x11_2 + 1)), (by rfl ), H', ⟨by have := HK1.out; have := HK2.out; have := HJ17.out; omega⟩, ⟨sdl HO_8⟩, ⟨bkl BK617⟩, ⟨bel1 HB GE617⟩⟩
    replace c27 := Bool.eq_false_iff.mpr c27
    subst c27
    replace H : ((spec_l5Move.f kj17 l0_0 x10_1 x11_2).bind fun t627 => ((spec_l7Findings.f kj17 t627 l1 a2).bind fun t630 => (if (t630.length : Int) < (t622.length : Int) then (if x8_2.length < 5864062014805 then (spec_HelpfulMoves.l1 kj17 l1 a2 (x8_2 ++ [(([x10_1, x11_2] : List Int))]) (t622.length : Int) x10_1 (wrap64 (x11_2 + 1)) l0_0) else (none)) else (spec_HelpfulMoves.l1 kj17 l1 a2 x8_2 (t622.length : Int) x10_1 (wrap64 (x11_2 + 1)) l0_0)))) = some (r1, r2) := by rw [if_neg (show ¬ (false = true) by decide)] at H; exact H
    obtain ⟨t627, A28, H⟩ := bnd H
    try dsimp only at H
    obtain ⟨t630, A29, H⟩ := bnd H
    try dsimp only at H
    by_cases c30 : (t630.length : Int) < (t622.length : Int)
    rotate_left
    ·rw [if_neg c30] at H
     have c30b0 : decide ((t630.length : Int) < (t622.length : Int)) = false := decide_eq_false c30
     have c30b1 : decide (t630.length < t622.length) = false := decide_eq_false (fun h => c30 (Int.ofNat_lt.mpr h))
     clear c30
     have H' := Aside0.mk H
     clear H
     have hcz41_0 := bc BK617 0
     have hfz41_0 := blk_frozen BK617.out 0
     go_wp2_with (first | ((with_reducible refine gate_callee (f := 32) rfl ?_); refine goesL_ (some 62) rfl rfl Try.func32 (by kernel_rfl) rfl #[.agg #[.slice A0_0 l0_0.length c0_0], .int .i64 x10_1, .int .i64 x11_2] rfl gmp ?_; (with_reducible refine (spec_l5Move.calls kj17 _ _ l0_0 x10_1 x11_2 t627 _ ?side1 ?side2 A28.out).mono ?_); (case side1 => exact cdl (Kd.C_below HR0_0.out HB.out)); (case side2 => exact HC0_0.out); rintro e w42 ⟨v628, rfl, ho0, hb⟩; refine ⟨_, rfl, ?_⟩; have HO629 := Aside0.mk (Kd.S_lower (Kd.S_new' ho0 (Kd.S_lt (sdl HO_8))) (below_size (bel1 HB GE617))); replace HO_8 := Aside0.mk (Kd.S_elder' (sdl HO_8) (Kd.S_base ho0) hb); replace BK617 := bkb BK617 hb; replace HB := Aside0.mk (below_step (bel1 HB GE617) hb); (try clear hb); (try clear ho0); obtain ⟨Ao43, co43, eo43⟩ := Kd.S_slice HO629.out; subst eo43) | ((with_reducible refine gate_callee (f := 31) rfl ?_); refine goesL_ (some 65) rfl rfl Try.func31 (by kernel_rfl) rfl #[.agg #[.slice Ao43 t627.length co43], .slice A1 l1.length c1, .int .i64 a2] rfl gmp ?_; (with_reducible refine (spec_l7Findings.calls kj17 _ _ t627 _ _ l1 a2 t630 _ ?side1 ?side2 ?side3 ?side4 A29.out).mono ?_); (case side1 => repeat (exact (Kd.S_reads' HO629.out).2.2 )); (case side2 => exact (Kd.S_reads' HO629.out).2.1); (case side3 => exact cdl (Kd.C_below HR1.out HB.out)); (case side4 => exact HC1.out); rintro e w44 ⟨v631, rfl, ho0, hb⟩; refine ⟨_, rfl, ?_⟩; replace HO_8 := Aside0.mk (Kd.S_below (sdl HO_8) hb); replace HO629 := Aside0.mk (Kd.S_below (sdl HO629) hb); have HO632 := Aside0.mk (Kd.R_lower ho0 (below_size (bel1 HB GE617))); replace BK617 := bkb BK617 hb; replace HB := Aside0.mk (below_step (bel1 HB GE617) hb); (try clear hb); (try clear ho0); obtain ⟨Ao45, co45, eo45⟩ := Kd.R_slice HO632.out; subst eo45))
     go_roundg kj17
     case measure => have := HK1.out; have := HK2.out; have := HJ17.out; omega
     case rel => exact ⟨(x8_2), (wrap64 (x11_2 + 1)), (by rfl ), H', ⟨by have := HK1.out; have := HK2.out; have := HJ17.out; omega⟩, ⟨by exact Kd.S_mono HO_8.out (fun _ hk => trivial)⟩, ⟨bkl BK617⟩, ⟨bel1 HB GE617⟩⟩
    rw [if_pos c30] at H
    have c30b0 : decide ((t630.length : Int) < (t622.length : Int)) = true := decide_eq_true c30
    have c30b1 : decide (t630.length < t622.length) = true := decide_eq_true (Int.ofNat_lt.mp c30)
    clear c30
    obtain ⟨y633, hy633⟩ : ∃ y_ : List Int, y_ = (([x10_1, x11_2] : List Int)) := ⟨_, rfl⟩
    replace H : (if x8_2.length < 5864062014805 then (spec_HelpfulMoves.l1 kj17 l1 a2 (x8_2 ++ [y633]) (t622.length : Int) x10_1 (wrap64 (x11_2 + 1)) l0_0) else (none)) = some (r1, r2) := by (rw [hy633]; with_reducible exact H) 
    have Ny633 := Aside0.mk hy633
    clear hy633
    by_cases c31 : x8_2.length < 5864062014805
    rotate_left
    ·rw [if_neg c31] at H
     exact absurd H (by simp)
    rw [if_pos c31] at H
    have LMc31 := Aside0.mk c31
    clear c31
    obtain ⟨y636, hy636⟩ : ∃ y_ : List (List Int), y_ = (x8_2 ++ [y633]) := ⟨_, rfl⟩
    replace H : (spec_HelpfulMoves.l1 kj17 l1 a2 y636 (t622.length : Int) x10_1 (wrap64 (x11_2 + 1)) l0_0) = some (r1, r2) := by (rw [hy636]; with_reducible exact H) 
    have Ny636 := Aside0.mk hy636
    clear hy636
    have H' := Aside0.mk H
    clear H
    have hcz32_0 := bc BK617 0
    have hfz32_0 := blk_frozen BK617.out 0
    go_wp2_with (first | ((with_reducible refine gate_callee (f := 32) rfl ?_); refine goesL_ (some 62) rfl rfl Try.func32 (by kernel_rfl) rfl #[.agg #[.slice A0_0 l0_0.length c0_0], .int .i64 x10_1, .int .i64 x11_2] rfl gmp ?_; (with_reducible refine (spec_l5Move.calls kj17 _ _ l0_0 x10_1 x11_2 t627 _ ?side1 ?side2 A28.out).mono ?_); (case side1 => exact cdl (Kd.C_below HR0_0.out HB.out)); (case side2 => exact HC0_0.out); rintro e w33 ⟨v628, rfl, ho0, hb⟩; refine ⟨_, rfl, ?_⟩; have HO629 := Aside0.mk (Kd.S_lower (Kd.S_new' ho0 (Kd.S_lt (sdl HO_8))) (below_size (bel1 HB GE617))); replace HO_8 := Aside0.mk (Kd.S_elder' (sdl HO_8) (Kd.S_base ho0) hb); replace BK617 := bkb BK617 hb; replace HB := Aside0.mk (below_step (bel1 HB GE617) hb); (try clear hb); (try clear ho0); obtain ⟨Ao34, co34, eo34⟩ := Kd.S_slice HO629.out; subst eo34) | ((with_reducible refine gate_callee (f := 31) rfl ?_); refine goesL_ (some 65) rfl rfl Try.func31 (by kernel_rfl) rfl #[.agg #[.slice Ao34 t627.length co34], .slice A1 l1.length c1, .int .i64 a2] rfl gmp ?_; (with_reducible refine (spec_l7Findings.calls kj17 _ _ t627 _ _ l1 a2 t630 _ ?side1 ?side2 ?side3 ?side4 A29.out).mono ?_); (case side1 => repeat (exact (Kd.S_reads' HO629.out).2.2 )); (case side2 => exact (Kd.S_reads' HO629.out).2.1); (case side3 => exact cdl (Kd.C_below HR1.out HB.out)); (case side4 => exact HC1.out); rintro e w35 ⟨v631, rfl, ho0, hb⟩; refine ⟨_, rfl, ?_⟩; replace HO_8 := Aside0.mk (Kd.S_below (sdl HO_8) hb); replace HO629 := Aside0.mk (Kd.S_below (sdl HO629) hb); have HO632 := Aside0.mk (Kd.R_lower ho0 (below_size (bel1 HB GE617))); replace BK617 := bkb BK617 hb; replace HB := Aside0.mk (below_step (bel1 HB GE617) hb); (try clear hb); (try clear ho0); obtain ⟨Ao36, co36, eo36⟩ := Kd.R_slice HO632.out; subst eo36) | ((with_reducible refine gate_dst (N := 72) rfl ?_); (try (refine gate_guard (by rfl) ?_; dsimp only)); refine Kd.R_lit (Kd.int .i64) _ 3 ?hg (N := 72) ?hd (xs := ([x10_1, x11_2] : List Int)) (inner := [.int .i64 x10_1, .int .i64 x11_2]) (ok := fun _ => True) (okp := fun _ => True) ?hr ?hp (fun _ hk => hk) trivial (Below.refl _ _) (Nat.le_refl _) (by simp) ?_; (case hd | hg => rfl); (case hr => go_simp); (case hp => exact (Reps.one (show Kd.M (Kd.int .i64) _ _ _ x10_1 [.int .i64 x10_1] from rfl) (Reps.one (show Kd.M (Kd.int .i64) _ _ _ x11_2 [.int .i64 x11_2] from rfl) (Reps.none _ _)))); intro v634 w37 ho38 hb hg_ hnew_; clear hg_ hnew_; (rw [← Ny633.out] at ho38 ); replace HO_8 := Aside0.mk (Kd.S_elder' (sdl HO_8) (Kd.R_base ho38) hb); replace HO629 := Aside0.mk (Kd.S_elder' (sdl HO629) (Kd.R_base ho38) hb); replace HO632 := Aside0.mk (Kd.R_below (rdl HO632) hb); have HO635 := Aside0.mk (Kd.R_lower ho38 (below_size (bel1 HB GE617))); replace BK617 := bkb BK617 hb; replace HB := Aside0.mk (below_step (bel1 HB GE617) hb); clear hb ho38; obtain ⟨Ao40, co40, eo40⟩ := Kd.R_slice HO635.out; subst eo40) | ((with_reducible refine gate_builtin (b := .append) (xs := #[.tmp 69, .tmp 73]) rfl ?_); (try (refine gate_guard (by rfl) ?_; dsimp only)); at_builtin; refine Kd.S_append (Kd.slice 3 (Kd.int .i64)) (w0 := w) w.heap.size rfl (.tmp 69) (.tmp 73) 24 30 (.slice none 0 0) 24 rfl Try.underlying24 info30 rfl (by decide) (by omega) u8 x8_2 y633 [.slice Ao40 y633.length co40] (fun k_ => some k_ ≠ (.slice Ao34 t627.length co34 : Value).ownBlock) (fun k_ => some k_ = (.slice Ao40 y633.length co40 : Value).ownBlock) rfl rfl ?aP (fun k_ hk_ => ((Kd.R_mono (ok' := fun k_ => ((fun k_ => some k_ ≠ (.slice Ao34 t627.length co34 : Value).ownBlock)) k_ ∧ some k_ ≠ (u8 : Value).ownBlock) (Kd.R_apart' (Kd.R_apart' (HO635.out) (Kd.S_typed HO629.out) (by decide)) (Kd.S_typed HO_8.out) (by decide)) (fun k_ hk => ⟨hk.1.2, hk.2⟩))).1 k_ hk_.symm) ?aF ?aO ?aB ?aS ?aL ?_; (case aP => exact Kd.M_row (Kd.R_mono (Kd.R_tight rfl (Kd.R_mono (ok' := fun k_ => ((fun k_ => some k_ ≠ (.slice Ao34 t627.length co34 : Value).ownBlock)) k_ ∧ some k_ ≠ (u8 : Value).ownBlock) (Kd.R_apart' (Kd.R_apart' (HO635.out) (Kd.S_typed HO629.out) (by decide)) (Kd.S_typed HO_8.out) (by decide)) (fun k_ hk => ⟨hk.1.2, hk.2⟩))) (fun _ h_ => h_))); (case aB => exact (bel1 HB GE617)); (case aF => exact (fun k_ hk => Kd.fresh' (Kd.S_lt (sdl HO629)) k_ hk)); (case aO => exact (by exact Kd.S_mono HO_8.out (fun k_ hk => ⟨hk.1.2, fun e_ => hk.2 e_⟩))); (case aS => exact (below_size (bel1 HB GE617))); (case aL => have := LMc31.out; omega); intro v637 w39 ho hb hg hat; rw [← Ny636.out] at ho; replace BK617 := Aside0.mk (blk_grown (g := gb617) (o := .cells #[.slice A0_0 l0_0.length c0_0] 26 (0, 0)) (bkl BK617) hg (Kd.S_ne HO_8.out BK617.out (by decide))); replace HO629 := Aside0.mk (Kd.S_after (ok := (fun k_ => some k_ ≠ (.slice Ao40 y633.length co40 : Value).ownBlock)) (by exact Kd.S_mono HO629.out (fun _ hk => ⟨hk.2, hk.1.2⟩)) hg hat); replace HO632 := Aside0.mk (Kd.R_over' (rdl HO632) (Kd.S_typed (sdl HO_8)) (by decide) hg); replace HB := Aside0.mk (hb); have HO638 := Aside0.mk (ho); clear HO_8; clear HO635; clear ho hb hg hat))
    go_roundg kj17
    case measure => have := HK1.out; have := HK2.out; have := HJ17.out; omega
    case rel => exact ⟨(y636), (wrap64 (x11_2 + 1)), (by rfl ), H', ⟨by have := HK1.out; have := HK2.out; have := HJ17.out; omega⟩, ⟨by exact Kd.S_mono HO638.out (fun _ hk => trivial)⟩, ⟨bkl BK617⟩, ⟨bel1 HB GE617⟩⟩
end Go.Proofs.Ytemildnlfjijmaa.P
