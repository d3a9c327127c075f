-- Written by a program of this session over the translation (a variant of the printer, see wip/gen); Lean checks it.
import Derived.Test.YtemildnlfjijmaaVC
import Derived.Test.YtemildnlfjijmaaPx0
import Derived.Test.YtemildnlfjijmaaPx8
import Derived.Test.YtemildnlfjijmaaPx18
import Derived.Test.YtemildnlfjijmaaPx19
import Derived.Test.YtemildnlfjijmaaPx20
namespace Go.Proofs.Ytemildnlfjijmaa.P
open Go.RowKit Go.Proofs.YtemildnlfjijmaaW.PrintWords Go.Proofs.YtemildnlfjijmaaW.PrintLast Go.Proofs.YtemildnlfjijmaaW.PrintMore
attribute [local go_sem] Go.Proofs.Ytemildnlfjijmaa.V.isSome_setCell max2_int min2_int max_two min_two max_three min_three max_four min_four
set_option linter.unusedVariables false
set_option linter.unusedSimpArgs false
/-! ### spec_AllowedStacks: function 7 -/
mutual
def spec_AllowedStacks.j0 : Nat → List (S71) → Int → Int → List Int → Bool → List (List Int) → Option (List Int × Bool)
 | 0, _, _, _, _, _, _ => none
 | k + 1, x1, x2, x3, x10, x27, x544000 => if x27 = true then (some (x10, false)) else ((spec_l5Find.f k x544000 x3).bind fun bt549 => (if bt549.1 ≥ 0 then (some (x10, false)) else (spec_AllowedStacks.l0 k x1 x2 x3 x10 0 x544000)))
def spec_AllowedStacks.l0 : Nat → List (S71) → Int → Int → List Int → Int → List (List Int) → Option (List Int × Bool)
 | 0, _, _, _, _, _, _ => none
 | k + 1, x1, x2, x3, x10, x13, x544000 => if x13 < (x544000.length : Int) then (if 0 ≤ x13 then (if ((rd_L4 x544000 x13).length : Int) = 4 then (spec_AllowedStacks.l0 k x1 x2 x3 x10 (wrap64 (x13 + 1)) x544000) else ((spec_l7Put.f k x544000 x13 x3).bind fun t552 => ((spec_l7At.f k t552 x1 x2 x13 ((rd_L4 x544000 x13).length : Int)).bind fun t557 => (if (t557.length : Int) = 0 then (if x10.length < 17592186044416 then (spec_AllowedStacks.l0 k x1 x2 x3 (x10 ++ [x13]) (wrap64 (x13 + 1)) x544000) else (none)) else (spec_AllowedStacks.l0 k x1 x2 x3 x10 (wrap64 (x13 + 1)) x544000))))) else (none)) else (some (x10, true))
end
def spec_AllowedStacks.f (k : Nat) (l0_0 : List (List Int)) (l1 : List (S71)) (a2 : Int) (a3 : Int) : Option (List Int × Bool) := (some (([] : List Int) : List Int)).bind fun y544 => ((spec_l7Asked.f k l0_0 l1 a2).bind fun t547 => (if t547 = true then ((spec_l1In.f a3 1 (l1.length : Int)).bind fun t548 => (spec_AllowedStacks.j0 k l1 a2 a3 y544 (!t548) l0_0)) else (spec_AllowedStacks.j0 k l1 a2 a3 y544 true l0_0)))
def spec_AllowedStacks.T12 : Bool × List (List Nat × List Nat) := (true, [([], []), ([], []), ([], []), ([], []), ([], []), ([4], [4]), ([], []), ([5, 6], [5, 6]), ([7], [7]), ([8], [8]), ([0, 1, 2, 3, 9], [0, 1, 2, 3, 9]), ([10], [10]), ([11], [11])])
def spec_AllowedStacks.B12 : List Nat := [0, 0, 0, 0, 0, 16, 0, 112, 240, 496, 1023, 2047, 4095]
theorem spec_AllowedStacks.tab12 : rtab .any (opsOf Try.f7 12) = spec_AllowedStacks.T12 := by kernel_rfl
theorem spec_AllowedStacks.bits12 : waitsOk spec_AllowedStacks.T12.2 spec_AllowedStacks.B12 = true := by kernel_rfl
set_option maxHeartbeats 8000000 in
set_option maxRecDepth 100000 in
theorem spec_AllowedStacks.calls (k : Nat) (A0_0 : Option Addr) (c0_0 : Nat) (l0_0 : List (List Int)) (A1 : Option Addr) (c1 : Nat) (l1 : List (S71)) (a2 : Int) (a3 : Int) (r1 : List Int) (r2 : Bool) (w : World) (hr0_0 : Kd.C (Kd.slice 3 (Kd.int .i64)) w A0_0 l0_0.length l0_0) (hc0_0 : l0_0.length ≤ c0_0) (hr1 : Kd.C k71 w A1 l1.length l1) (hc1 : l1.length ≤ c1) (h : spec_AllowedStacks.f k l0_0 l1 a2 a3 = some (r1, r2)) :
  Calls Try.prog 7 #[.agg #[.slice A0_0 l0_0.length c0_0], .slice A1 l1.length c1, .int .i64 a2, .int .i64 a3] w fun e w' => ∃ v0_ : Value, e = .returned (.tuple #[v0_, .bool r2]) ∧ Kd.R (Kd.int .i64) 3 w' w.heap.size (fun _ => True) v0_ r1 ∧ Below w.heap.size w w' := by
 have hu26 := Try.underlying26
 have HR0_0 := Aside0.mk hr0_0
 have HC0_0 := Aside0.mk hc0_0
 clear hr0_0 hc0_0
 have HR1 := Aside0.mk hr1
 have HC1 := Aside0.mk hc1
 clear hr1 hc1
 have HB := Aside0.mk (Below.refl w.heap.size w)
 have H : ((some (([] : List Int) : List Int)).bind fun y544 => ((spec_l7Asked.f k l0_0 l1 a2).bind fun t547 => (if t547 = true then ((spec_l1In.f a3 1 (l1.length : Int)).bind fun t548 => (spec_AllowedStacks.j0 k l1 a2 a3 y544 (!t548) l0_0)) else (spec_AllowedStacks.j0 k l1 a2 a3 y544 true l0_0)))) = some (r1, r2) := h
 clear h
 obtain ⟨y544, hy544⟩ : ∃ y_ : List Int, y_ = (([] : List Int)) := ⟨_, rfl⟩
 replace H : ((spec_l7Asked.f k l0_0 l1 a2).bind fun t547 => (if t547 = true then ((spec_l1In.f a3 1 (l1.length : Int)).bind fun t548 => (spec_AllowedStacks.j0 k l1 a2 a3 y544 (!t548) l0_0)) else (spec_AllowedStacks.j0 k l1 a2 a3 y544 true l0_0))) = some (r1, r2) := by (have H2_ := (Option.bind_some _ _).symm.trans H; rw [hy544]; with_reducible exact H2_) 
 have Ny544 := Aside0.mk hy544
 clear hy544
 have HC5 := Aside0.mk H
 clear H
 go_enter Try.func7, Try.ntmps7
 go_upto_region 2 with (first | ((with_reducible refine gate_dst (N := 4) rfl ?_); (try (refine gate_guard (by rfl) ?_; dsimp only)); refine box_event ?hg (N := 4) ?hd (cs := #[.slice A0_0 l0_0.length c0_0]) (t := 26) ?hr ?_; (case hd | hg => rfl); (case hr => go_simp); intro gb543 hg w6 hbox hb; have BK543 := Aside0.mk (hbox); have GW543 := gsb (w := w) hg (bel HB); have GE543 := gsb (w := w) hg (bel HB); replace HB := Aside0.mk (below_step (bel HB) hb); clear hb hbox hg) | ((with_reducible refine gate_dst (N := 15) rfl ?_); (try (refine gate_guard (by rfl) ?_; dsimp only)); refine Kd.R_lit (Kd.int .i64) _ 3 ?hg (N := 15) ?hd (xs := ([] : List Int)) (inner := []) (ok := fun _ => True) (okp := fun _ => True) ?hr ?hp (fun _ hk => hk) trivial (Below.refl _ _) (Nat.le_refl _) (by simp) ?_; (case hd | hg => rfl); (case hr => go_simp); (case hp => exact (Reps.none _ _)); intro v545 w7 ho8 hb hg_ hnew_; clear hg_ hnew_; (rw [← Ny544.out] at ho8 ); have HO546 := Aside0.mk (Kd.R_lower ho8 (below_size (bel1 HB GE543))); replace BK543 := bkb BK543 hb; replace HB := Aside0.mk (below_step (bel1 HB GE543) hb); clear hb ho8))
 go_cut [27] (fun v27 wc => ∃ (kq : Nat) (x27_4 : Bool), v27 = .bool x27_4 ∧ Aside0 (spec_AllowedStacks.j0 kq l1 a2 a3 y544 x27_4 l0_0 = some (r1, r2)) ∧ Aside0 (kq ≤ k) ∧ Aside0 (Kd.R (Kd.int .i64) 3 wc w.heap.size (fun _ => True) v545 y544) ∧ Aside0 (wc.heap[gb543]? = some (.cells #[(.slice A0_0 l0_0.length c0_0)] 26 (0, 0))) ∧ Aside0 (Below w.heap.size w wc))
 case first =>
  have H := HC5.out
  clear HC5
  obtain ⟨t547, A9, H⟩ := bnd H
  try dsimp only at H
  by_cases c10 : t547 = true
  rotate_left
  ·replace c10 := Bool.eq_false_iff.mpr c10
   subst c10
   replace H : (spec_AllowedStacks.j0 k l1 a2 a3 y544 true l0_0) = some (r1, r2) := by rw [if_neg (show ¬ (false = true) by decide)] at H; exact H
   have H' := Aside0.mk H
   clear H
   have hcz14_0 := bc BK543 0
   have hfz14_0 := blk_frozen BK543.out 0
   go_wp2_with (first | ((with_reducible refine gate_callee (f := 24) rfl ?_); refine goesL_ (some 19) rfl rfl Try.func24 (by kernel_rfl) rfl #[.agg #[.slice A0_0 l0_0.length c0_0], .slice A1 l1.length c1, .int .i64 a2] rfl gmp ?_; (with_reducible refine (spec_l7Asked.calls k _ _ l0_0 _ _ l1 a2 false _ ?side1 ?side2 ?side3 ?side4 A9.out).mono ?_); (case side1 => exact cdl (Kd.C_below HR0_0.out HB.out)); (case side2 => exact HC0_0.out); (case side3 => exact cdl (Kd.C_below HR1.out HB.out)); (case side4 => exact HC1.out); rintro e w15 ⟨rfl, hb⟩; refine ⟨_, rfl, ?_⟩; replace HO546 := Aside0.mk (Kd.R_below (rdl HO546) hb); replace BK543 := bkb BK543 hb; replace HB := Aside0.mk (below_step (bel1 HB GE543) hb); (try clear hb)))
   go_meet
   case rel => exact ⟨_, (true), (by rfl ), H', ⟨by omega ⟩, ⟨rdl HO546⟩, ⟨bkl BK543⟩, ⟨bel1 HB GE543⟩⟩
  subst c10
  replace H : ((spec_l1In.f a3 1 (l1.length : Int)).bind fun t548 => (spec_AllowedStacks.j0 k l1 a2 a3 y544 (!t548) l0_0)) = some (r1, r2) := by rw [if_pos rfl] at H; exact H
  obtain ⟨t548, A11, H⟩ := bnd H
  try dsimp only at H
  have H' := Aside0.mk H
  clear H
  have hcz12_0 := bc BK543 0
  have hfz12_0 := blk_frozen BK543.out 0
  go_wp2_with (first | ((with_reducible refine gate_callee (f := 24) rfl ?_); refine goesL_ (some 19) rfl rfl Try.func24 (by kernel_rfl) rfl #[.agg #[.slice A0_0 l0_0.length c0_0], .slice A1 l1.length c1, .int .i64 a2] rfl gmp ?_; (with_reducible refine (spec_l7Asked.calls k _ _ l0_0 _ _ l1 a2 true _ ?side1 ?side2 ?side3 ?side4 A9.out).mono ?_); (case side1 => exact cdl (Kd.C_below HR0_0.out HB.out)); (case side2 => exact HC0_0.out); (case side3 => exact cdl (Kd.C_below HR1.out HB.out)); (case side4 => exact HC1.out); rintro e w13 ⟨rfl, hb⟩; refine ⟨_, rfl, ?_⟩; replace HO546 := Aside0.mk (Kd.R_below (rdl HO546) hb); replace BK543 := bkb BK543 hb; replace HB := Aside0.mk (below_step (bel1 HB GE543) hb); (try clear hb)) | (go_at_call 25; (with_reducible refine (spec_l1In.calls a3 1 (l1.length : Int) t548 _ A11.out).mono ?_); rintro e w' ⟨rfl, ⟨nd, rfl⟩⟩))
  go_meet
  case rel => exact ⟨_, (!t548), (by rfl ), H', ⟨by omega ⟩, ⟨rdl HO546⟩, ⟨bkl BK543⟩, ⟨bel1 HB GE543⟩⟩
 clear HC5
 obtain ⟨kq, x27_4, rfl, HA, HJ4, HO_10, BK543, HB⟩ := hcut
 cases kq with
 | zero => exact absurd HA.out (by simp [spec_AllowedStacks.j0])
 | succ kj4 =>
  have H := HA.out
  clear HA
  simp only [spec_AllowedStacks.j0] at H
  by_cases c16 : x27_4 = true
  ·subst c16
   replace H : (some (y544, false)) = some (r1, r2) := by rw [if_pos rfl] at H; exact H
   simp only [Option.some.injEq, Prod.mk.injEq] at H
   obtain ⟨rfl, rfl⟩ := H
   go_wp2
   go_ret2
   exact ⟨_, by rfl , rdl HO_10, bel1 HB GE543⟩
  replace c16 := Bool.eq_false_iff.mpr c16
  subst c16
  replace H : ((spec_l5Find.f kj4 l0_0 a3).bind fun bt549 => (if bt549.1 ≥ 0 then (some (y544, false)) else (spec_AllowedStacks.l0 kj4 l1 a2 a3 y544 0 l0_0))) = some (r1, r2) := by rw [if_neg (show ¬ (false = true) by decide)] at H; exact H
  obtain ⟨⟨t549, t550⟩, A17, H⟩ := bnd H
  try dsimp only at H
  by_cases c18 : t549 ≥ 0
  ·rw [if_pos c18] at H
   have c18b0 : decide (0 ≤ t549) = true := decide_eq_true c18
   clear c18
   simp only [Option.some.injEq, Prod.mk.injEq] at H
   obtain ⟨rfl, rfl⟩ := H
   have hcz19_0 := bc BK543 0
   have hfz19_0 := blk_frozen BK543.out 0
   go_wp2_with (first | ((with_reducible refine gate_callee (f := 18) rfl ?_); refine goesL_ (some 32) rfl rfl Try.func18 (by kernel_rfl) rfl #[.agg #[.slice A0_0 l0_0.length c0_0], .int .i64 a3] rfl gmp ?_; (with_reducible refine (spec_l5Find.calls kj4 _ _ l0_0 a3 t549 t550 _ ?side1 ?side2 A17.out).mono ?_); (case side1 => exact cdl (Kd.C_below HR0_0.out HB.out)); (case side2 => exact HC0_0.out); rintro e w20 ⟨rfl, hb⟩; refine ⟨_, rfl, ?_⟩; replace HO_10 := Aside0.mk (Kd.R_below (rdl HO_10) hb); replace BK543 := bkb BK543 hb; replace HB := Aside0.mk (below_step (bel1 HB GE543) hb); (try clear hb)))
   go_ret2
   exact ⟨_, by rfl , rdl HO_10, bel1 HB GE543⟩
  rw [if_neg c18] at H
  have c18b0 : decide (0 ≤ t549) = false := decide_eq_false c18
  clear c18
  have H' := Aside0.mk H
  clear H
  have hcz21_0 := bc BK543 0
  have hfz21_0 := blk_frozen BK543.out 0
  go_wp2_with (first | ((with_reducible refine gate_callee (f := 18) rfl ?_); refine goesL_ (some 32) rfl rfl Try.func18 (by kernel_rfl) rfl #[.agg #[.slice A0_0 l0_0.length c0_0], .int .i64 a3] rfl gmp ?_; (with_reducible refine (spec_l5Find.calls kj4 _ _ l0_0 a3 t549 t550 _ ?side1 ?side2 A17.out).mono ?_); (case side1 => exact cdl (Kd.C_below HR0_0.out HB.out)); (case side2 => exact HC0_0.out); rintro e w22 ⟨rfl, hb⟩; refine ⟨_, rfl, ?_⟩; replace HO_10 := Aside0.mk (Kd.R_below (rdl HO_10) hb); replace BK543 := bkb BK543 hb; replace HB := Aside0.mk (below_step (bel1 HB GE543) hb); (try clear hb)))
  go_loopg [10, 13] kj4 (fun kq v10 v13 w' => ∃ (x10_2 : List Int) (x13_2 : Int), v13 = .int .i64 x13_2 ∧ Aside0 (spec_AllowedStacks.l0 kq l1 a2 a3 x10_2 x13_2 l0_0 = some (r1, r2)) ∧ Aside0 (kq ≤ kj4) ∧ Aside0 (Kd.R (Kd.int .i64) 3 w' w.heap.size (fun _ => True) v10 x10_2) ∧ Aside0 (w'.heap[gb543]? = some (.cells #[(.slice A0_0 l0_0.length c0_0)] 26 (0, 0))) ∧ Aside0 (Below w.heap.size w w'))
  case atStart => exact ⟨(y544), (0), (by rfl ), H', ⟨Nat.le_refl _⟩, ⟨rdl HO_10⟩, ⟨bkl BK543⟩, ⟨bel1 HB GE543⟩⟩
  clear H'
  try clear c18b0
  try clear hcz21_0
  try clear hfz21_0
  obtain ⟨x10_2, x13_2, rfl, HA, HK2, HO_10, BK543, HB⟩ := hrel
  cases gk with
  | zero => exact absurd HA.out (by simp [spec_AllowedStacks.l0])
  | succ k2 =>
   have H := HA.out
   clear HA
   simp only [spec_AllowedStacks.l0] at H
   by_cases c23 : x13_2 < (l0_0.length : Int)
   rotate_left
   ·rw [if_neg c23] at H
    have c23b0 : decide (x13_2 < (l0_0.length : Int)) = false := decide_eq_false c23
    clear c23
    simp only [Option.some.injEq, Prod.mk.injEq] at H
    obtain ⟨rfl, rfl⟩ := H
    have hcz52_0 := bc BK543 0
    have hfz52_0 := blk_frozen BK543.out 0
    go_wp2
    go_ret2
    exact ⟨_, by rfl , rdl HO_10, bel1 HB GE543⟩
   rw [if_pos c23] at H
   have c23b0 : decide (x13_2 < (l0_0.length : Int)) = true := decide_eq_true c23
   clear c23
   by_cases c24 : 0 ≤ x13_2
   rotate_left
   ·rw [if_neg c24] at H
    exact absurd H (by simp)
   rw [if_pos c24] at H
   have c24b0 : decide (0 ≤ x13_2) = true := decide_eq_true c24
   clear c24
   by_cases c25 : ((rd_L4 l0_0 x13_2).length : Int) = 4
   ·rw [if_pos c25] at H
    have c25b0 : (((rd_L4 l0_0 x13_2).length : Int) == 4) = true := beq_iff_eq.mpr c25
    have c25b1 : (((rd_L4 l0_0 x13_2).length : Int) != 4) = false := bne_eq_false_iff_eq.mpr c25
    clear c25
    have H' := Aside0.mk H
    clear H
    have hcz26_0 := bc BK543 0
    have hfz26_0 := blk_frozen BK543.out 0
    have p551 : 0 ≤ (x13_2 : Int) := oda
    have q551 : x13_2 < (l0_0.length : Int) := oda
    obtain ⟨ad551, A551_0, c551_0, e551, hx551_0, hl551_0, hi551_0⟩ := at_L4 HR0_0.out x13_2 p551 q551
    cases e551
    replace hx551_0 := cel HB hx551_0
    have HR551_0 := Aside0.mk hi551_0
    have HC551_0 := Aside0.mk hl551_0
    clear hi551_0 hl551_0
    replace p551 := eq_true p551
    replace q551 := eq_true q551
    go_wp2
    go_roundg k2
    case measure => have := HJ4.out; have := HK2.out; omega
    case rel => exact ⟨(x10_2), (wrap64 (x13_2 + 1)), (by rfl ), H', ⟨by have := HJ4.out; have := HK2.out; omega⟩, ⟨rdl HO_10⟩, ⟨bkl BK543⟩, ⟨bel1 HB GE543⟩⟩
   rw [if_neg c25] at H
   have c25b0 : (((rd_L4 l0_0 x13_2).length : Int) == 4) = false := beq_eq_false_iff_ne.mpr c25
   have c25b1 : (((rd_L4 l0_0 x13_2).length : Int) != 4) = true := bne_iff_ne.mpr c25
   obtain ⟨t552, A27, H⟩ := bnd H
   try dsimp only at H
   obtain ⟨t557, A28, H⟩ := bnd H
   try dsimp only at H
   by_cases c29 : (t557.length : Int) = 0
   rotate_left
   ·rw [if_neg c29] at H
    have c29b0 : ((t557.length : Int) == 0) = false := beq_eq_false_iff_ne.mpr c29
    have c29b1 : ((t557.length : Int) != 0) = true := bne_iff_ne.mpr c29
    have c29b2 : ¬ (t557 = []) := fun h_ => c29 (by rw [h_]; rfl)
    have H' := Aside0.mk H
    clear H
    have hcz42_0 := bc BK543 0
    have hfz42_0 := blk_frozen BK543.out 0
    have p551 : 0 ≤ (x13_2 : Int) := oda
    have q551 : x13_2 < (l0_0.length : Int) := oda
    obtain ⟨ad551, A551_0, c551_0, e551, hx551_0, hl551_0, hi551_0⟩ := at_L4 HR0_0.out x13_2 p551 q551
    cases e551
    replace hx551_0 := cel HB hx551_0
    have HR551_0 := Aside0.mk hi551_0
    have HC551_0 := Aside0.mk hl551_0
    clear hi551_0 hl551_0
    replace p551 := eq_true p551
    replace q551 := eq_true q551
    try go_wp2_with (first | ((with_reducible refine gate_callee (f := 26) rfl ?_); refine goesL_ (some 55) rfl rfl Try.func26 (by kernel_rfl) rfl #[.agg #[.slice (some ad551) l0_0.length c0_0], .int .i64 x13_2, .int .i64 a3] rfl gmp ?_; (with_reducible refine (spec_l7Put.calls k2 _ _ l0_0 x13_2 a3 t552 _ ?side1 ?side2 A27.out).mono ?_); (case side1 => exact cdl (Kd.C_below HR0_0.out HB.out)); (case side2 => exact HC0_0.out); rintro e w43 ⟨v553, rfl, ho0, hb⟩; refine ⟨_, rfl, ?_⟩; have HO554 := Aside0.mk (Kd.S_lower (Kd.S_new' ho0 (Kd.R_lt (rdl HO_10))) (below_size (bel1 HB GE543))); replace HO_10 := Aside0.mk (Kd.R_below (rdl HO_10) hb); replace BK543 := bkb BK543 hb; replace HB := Aside0.mk (below_step (bel1 HB GE543) hb); (try clear hb); (try clear ho0)) | ((with_reducible refine gate_dst (N := 14) rfl ?_); (try (refine gate_guard (by rfl) ?_; dsimp only)); refine box_event ?hg (N := 14) ?hd (cs := #[.slice none 0 0]) (t := 26) ?hr ?_; (case hd | hg => rfl); (case hr => go_simp); intro gb555 hg w44 hbox hb; replace HO_10 := Aside0.mk (Kd.R_below (rdl HO_10) hb); replace HO554 := Aside0.mk (Kd.S_below (sdl HO554) hb); have BK555 := Aside0.mk (hbox); have GW555 := gsb (w := w) hg (bel1 HB GE543); have GE555 := gsb (w := w) hg (bel1 HB GE543); replace HB := Aside0.mk (below_step (bel1 HB GE543) hb); have NB543_555 := nbl hg BK543; have NB555_543 := nbr hg BK543; replace BK543 := bkb BK543 hb; clear hb hbox hg; obtain ⟨Ao45, co45, eo45⟩ := Kd.S_slice HO554.out; subst eo45; have hnb46 := NB555_543.out; have hnc46 := NB543_555.out; obtain ⟨_, _⟩ := bf1 BK555))
    have n0_ : Aside0 (Kd.R (Kd.int .i64) 3 (w44.setCell ⟨gb555, 0, none⟩ (.slice Ao45 t552.length co45)) w.heap.size (fun _ => True) u10 x10_2) := ⟨by exact Kd.R_mono (Kd.R_far (p := ⟨gb555, 0, none⟩) (Kd.R_types HO_10.out BK555.out (by decide)) (fun _ hk => hk.2) (.slice Ao45 t552.length co45)) (fun _ hk => trivial)⟩
    have n1_ : Aside0 (Kd.S (Kd.slice 3 (Kd.int .i64)) 30 (w44.setCell ⟨gb555, 0, none⟩ (.slice Ao45 t552.length co45)) w.heap.size (fun k_ => some k_ ≠ (u10 : Value).ownBlock) (.slice Ao45 t552.length co45) t552) := ⟨by exact Kd.S_mono (Kd.S_far (p := ⟨gb555, 0, none⟩) (Kd.S_types HO554.out BK555.out (by decide)) (fun _ hk => hk.2) (.slice Ao45 t552.length co45)) (fun _ hk => hk.1.2)⟩
    have n2_ : Aside0 ((w44.setCell ⟨gb555, 0, none⟩ (.slice Ao45 t552.length co45)).heap[gb543]? = some (.cells #[.slice (some ad551) l0_0.length c0_0] 26 (0, 0))) := ⟨by refine blk_far ?_ NB543_555.out _; exact BK543.out⟩
    have n3_ : Aside0 ((w44.setCell ⟨gb555, 0, none⟩ (.slice Ao45 t552.length co45)).heap[gb555]? = some (.cells #[.slice Ao45 t552.length co45] 26 (0, 0))) := ⟨by refine blk_put (cs := #[.slice none 0 0]) ?_ 0 _ rfl; exact BK555.out⟩
    have n4_ : Aside0 (Below w.heap.size w (w44.setCell ⟨gb555, 0, none⟩ (.slice Ao45 t552.length co45))) := ⟨bel2 HB GE543 GE555⟩
    (try clear HO_10)
    (try clear HO554)
    (try clear BK543)
    (try clear BK555)
    (try clear HB)
    generalize (w44.setCell ⟨gb555, 0, none⟩ (.slice Ao45 t552.length co45)) = w48 at n0_ n1_ n2_ n3_ n4_ ⊢
    have HO_10 := n0_
    have HO554 := n1_
    have BK543 := n2_
    have BK555 := n3_
    have HB := n4_
    clear n0_ n1_ n2_ n3_ n4_
    have n0_ := Aside0.mk (Kd.R_drew HO_10.out)
    have n1_ := Aside0.mk (Kd.S_drew HO554.out)
    have n2_ := Aside0.mk (blk_drew BK543.out)
    have n3_ := Aside0.mk (blk_drew BK555.out)
    have n4_ := Aside0.mk (below_drew1 HB.out)
    clear HO_10 HO554 BK543 BK555 HB
    have HO_10 := n0_
    have HO554 := n1_
    have BK543 := n2_
    have BK555 := n3_
    have HB := n4_
    clear n0_ n1_ n2_ n3_ n4_
    have p556 : 0 ≤ (x13_2 : Int) := oda
    have q556 : x13_2 < (l0_0.length : Int) := oda
    obtain ⟨ad556, A556_0, c556_0, e556, hx556_0, hl556_0, hi556_0⟩ := at_L4 HR0_0.out x13_2 p556 q556
    have hw556_0 := hx556_0
    obtain rfl : ad551 = ad556 := (by injection e556)
    replace hx556_0 := cel HB hx556_0
    have HR556_0 := Aside0.mk hi556_0
    have HC556_0 := Aside0.mk hl556_0
    clear hi556_0 hl556_0
    replace p556 := eq_true p556
    replace q556 := eq_true q556
    refine start_ (n := 13) (S := fun w' => w'.cell? ⟨gb555, 0, none⟩ = some (.slice Ao45 t552.length co45) ∧ w'.cell? ⟨gb543, 0, none⟩ = some (.slice (some ad551) l0_0.length c0_0) ∧ w'.cell? (ad551.add (x13_2).toNat) = some (.slice A556_0 (rd_L4 l0_0 x13_2).length c556_0)) (ds := []) #[false, false, false, false, false, false, false, false, false, false, false, false, false] (by kernel_rfl) rfl rfl ⟨(blk_cell BK555.out 0).trans rfl, (blk_cell BK543.out 0).trans rfl, (cel HB hw556_0 :)⟩ (fun hHeld => ?_); refine with_tabW spec_AllowedStacks.tab12 spec_AllowedStacks.bits12 (fun HT_ HW_ => ?_)
    generalize w48.drew = w49 at HO_10 HO554 BK543 BK555 HB HR556_0 hx556_0 hHeld ⊢
    refine pu 1 (some 57) (bx 13 2) (h := ?_)
    refine pu 2 (some 58) (bx 13 6) (h := ?_)
    refine pu 3 (some 59) (bx 13 14) (h := ?_)
    refine pu 4 (some 60) (bx 13 30) (h := ?_)
    refine pu 6 (some 62) (bx 13 94) (h := ?_)
    refine tk3 0 (some 56) (bx 13 95) (h := ?_)
    refine tk3 5 (some 61) (bx 13 127) (h := ?_)
    refine pu 7 (some 63) (bx 13 255) (h := ?_)
    refine tk3 8 (some 64) (bx 13 511) (h := ?_)
    refine pu 9 (some 65) (bx 13 1023) (h := ?_)
    refine on 10 (some 66) (bx 13 2047) (h := fun K hK => ?_)
    refine goes_ Try.func27 (by kernel_rfl) rfl #[.agg #[.slice Ao45 t552.length co45], .slice A1 l1.length c1, .int .i64 a2, .int .i64 x13_2, .int .i64 ((rd_L4 l0_0 x13_2).length : Int)] (by rfl) rfl rfl gmp ?_
    with_reducible refine (spec_l7At.calls k2 _ _ t552 _ _ l1 a2 x13_2 ((rd_L4 l0_0 x13_2).length : Int) t557 _ ?side1 ?side2 ?side3 ?side4 A28.out).mono ?_
    (case side1 => repeat (exact (Kd.S_reads' HO554.out).2.2 ))
    (case side2 => exact (Kd.S_reads' HO554.out).2.1)
    (case side3 => exact cdl (Kd.C_below HR1.out HB.out))
    (case side4 => exact HC1.out)
    rintro e w50 ⟨v558, rfl, ho0, hb⟩
    refine ⟨_, rfl, ?_⟩
    have n0_ := Aside0.mk (Kd.R_below (rdl HO_10) hb)
    have n1_ := Aside0.mk (Kd.S_below (sdl HO554) hb)
    have n2_ := Aside0.mk (Kd.R_lower ho0 (below_size (bel2 HB GE543 GE555)))
    have n3_ := bkb BK543 hb
    have n4_ := bkb BK555 hb
    have n5_ := Aside0.mk (below_step (bel2 HB GE543 GE555) hb)
    clear HO_10 HO554 BK543 BK555 HB
    have HO_10 := n0_
    have HO554 := n1_
    have HO559 := n2_
    have BK543 := n3_
    have BK555 := n4_
    have HB := n5_
    clear n0_ n1_ n2_ n3_ n4_ n5_
    (try clear hb)
    (try clear ho0)
    obtain ⟨Ao51, co51, eo51⟩ := Kd.R_slice HO559.out
    (subst eo51 )
    refine hK.out _ _ ⟨(blk_cell BK555.out 0).trans rfl, (blk_cell BK543.out 0).trans rfl, (cel HB hw556_0 :)⟩ (fun hHeld => ?_)
    clear hK K
    refine nm 66 (h := ?_)
    refine pu 11 (some 67) (bx 13 4095) (h := ?_)
    refine pu 12 (some 68) (bx 13 8191) (h := ?_)
    refine done_ (done_of HT_.out (by kernel_rfl)) ?_
    try go_wp2
    go_roundg k2
    case measure => have := HJ4.out; have := HK2.out; omega
    case rel => exact ⟨(x10_2), (wrap64 (x13_2 + 1)), (by rfl ), H', ⟨by have := HJ4.out; have := HK2.out; omega⟩, ⟨rdl HO_10⟩, ⟨bkl BK543⟩, ⟨bel2 HB GE543 GE555⟩⟩
   rw [if_pos c29] at H
   have c29b0 : ((t557.length : Int) == 0) = true := beq_iff_eq.mpr c29
   have c29b1 : ((t557.length : Int) != 0) = false := bne_eq_false_iff_eq.mpr c29
   clear c29
   by_cases c30 : x10_2.length < 17592186044416
   rotate_left
   ·rw [if_neg c30] at H
    exact absurd H (by simp)
   rw [if_pos c30] at H
   have LMc30 := Aside0.mk c30
   clear c30
   obtain ⟨y560, hy560⟩ : ∃ y_ : List Int, y_ = (x10_2 ++ [x13_2]) := ⟨_, rfl⟩
   replace H : (spec_AllowedStacks.l0 k2 l1 a2 a3 y560 (wrap64 (x13_2 + 1)) l0_0) = some (r1, r2) := by (rw [hy560]; with_reducible exact H) 
   have Ny560 := Aside0.mk hy560
   clear hy560
   have H' := Aside0.mk H
   clear H
   have hcz31_0 := bc BK543 0
   have hfz31_0 := blk_frozen BK543.out 0
   have p551 : 0 ≤ (x13_2 : Int) := oda
   have q551 : x13_2 < (l0_0.length : Int) := oda
   obtain ⟨ad551, A551_0, c551_0, e551, hx551_0, hl551_0, hi551_0⟩ := at_L4 HR0_0.out x13_2 p551 q551
   cases e551
   replace hx551_0 := cel HB hx551_0
   have HR551_0 := Aside0.mk hi551_0
   have HC551_0 := Aside0.mk hl551_0
   clear hi551_0 hl551_0
   replace p551 := eq_true p551
   replace q551 := eq_true q551
   try go_wp2_with (first | ((with_reducible refine gate_callee (f := 26) rfl ?_); refine goesL_ (some 55) rfl rfl Try.func26 (by kernel_rfl) rfl #[.agg #[.slice (some ad551) l0_0.length c0_0], .int .i64 x13_2, .int .i64 a3] rfl gmp ?_; (with_reducible refine (spec_l7Put.calls k2 _ _ l0_0 x13_2 a3 t552 _ ?side1 ?side2 A27.out).mono ?_); (case side1 => exact cdl (Kd.C_below HR0_0.out HB.out)); (case side2 => exact HC0_0.out); rintro e w32 ⟨v553, rfl, ho0, hb⟩; refine ⟨_, rfl, ?_⟩; have HO554 := Aside0.mk (Kd.S_lower (Kd.S_new' ho0 (Kd.R_lt (rdl HO_10))) (below_size (bel1 HB GE543))); replace HO_10 := Aside0.mk (Kd.R_below (rdl HO_10) hb); replace BK543 := bkb BK543 hb; replace HB := Aside0.mk (below_step (bel1 HB GE543) hb); (try clear hb); (try clear ho0)) | ((with_reducible refine gate_dst (N := 14) rfl ?_); (try (refine gate_guard (by rfl) ?_; dsimp only)); refine box_event ?hg (N := 14) ?hd (cs := #[.slice none 0 0]) (t := 26) ?hr ?_; (case hd | hg => rfl); (case hr => go_simp); intro gb555 hg w33 hbox hb; replace HO_10 := Aside0.mk (Kd.R_below (rdl HO_10) hb); replace HO554 := Aside0.mk (Kd.S_below (sdl HO554) hb); have BK555 := Aside0.mk (hbox); have GW555 := gsb (w := w) hg (bel1 HB GE543); have GE555 := gsb (w := w) hg (bel1 HB GE543); replace HB := Aside0.mk (below_step (bel1 HB GE543) hb); have NB543_555 := nbl hg BK543; have NB555_543 := nbr hg BK543; replace BK543 := bkb BK543 hb; clear hb hbox hg; obtain ⟨Ao34, co34, eo34⟩ := Kd.S_slice HO554.out; subst eo34; have hnb35 := NB555_543.out; have hnc35 := NB543_555.out; obtain ⟨_, _⟩ := bf1 BK555))
   have n0_ : Aside0 (Kd.R (Kd.int .i64) 3 (w33.setCell ⟨gb555, 0, none⟩ (.slice Ao34 t552.length co34)) w.heap.size (fun _ => True) u10 x10_2) := ⟨by exact Kd.R_mono (Kd.R_far (p := ⟨gb555, 0, none⟩) (Kd.R_types HO_10.out BK555.out (by decide)) (fun _ hk => hk.2) (.slice Ao34 t552.length co34)) (fun _ hk => trivial)⟩
   have n1_ : Aside0 (Kd.S (Kd.slice 3 (Kd.int .i64)) 30 (w33.setCell ⟨gb555, 0, none⟩ (.slice Ao34 t552.length co34)) w.heap.size (fun k_ => some k_ ≠ (u10 : Value).ownBlock) (.slice Ao34 t552.length co34) t552) := ⟨by exact Kd.S_mono (Kd.S_far (p := ⟨gb555, 0, none⟩) (Kd.S_types HO554.out BK555.out (by decide)) (fun _ hk => hk.2) (.slice Ao34 t552.length co34)) (fun _ hk => hk.1.2)⟩
   have n2_ : Aside0 ((w33.setCell ⟨gb555, 0, none⟩ (.slice Ao34 t552.length co34)).heap[gb543]? = some (.cells #[.slice (some ad551) l0_0.length c0_0] 26 (0, 0))) := ⟨by refine blk_far ?_ NB543_555.out _; exact BK543.out⟩
   have n3_ : Aside0 ((w33.setCell ⟨gb555, 0, none⟩ (.slice Ao34 t552.length co34)).heap[gb555]? = some (.cells #[.slice Ao34 t552.length co34] 26 (0, 0))) := ⟨by refine blk_put (cs := #[.slice none 0 0]) ?_ 0 _ rfl; exact BK555.out⟩
   have n4_ : Aside0 (Below w.heap.size w (w33.setCell ⟨gb555, 0, none⟩ (.slice Ao34 t552.length co34))) := ⟨bel2 HB GE543 GE555⟩
   (try clear HO_10)
   (try clear HO554)
   (try clear BK543)
   (try clear BK555)
   (try clear HB)
   generalize (w33.setCell ⟨gb555, 0, none⟩ (.slice Ao34 t552.length co34)) = w37 at n0_ n1_ n2_ n3_ n4_ ⊢
   have HO_10 := n0_
   have HO554 := n1_
   have BK543 := n2_
   have BK555 := n3_
   have HB := n4_
   clear n0_ n1_ n2_ n3_ n4_
   have n0_ := Aside0.mk (Kd.R_drew HO_10.out)
   have n1_ := Aside0.mk (Kd.S_drew HO554.out)
   have n2_ := Aside0.mk (blk_drew BK543.out)
   have n3_ := Aside0.mk (blk_drew BK555.out)
   have n4_ := Aside0.mk (below_drew1 HB.out)
   clear HO_10 HO554 BK543 BK555 HB
   have HO_10 := n0_
   have HO554 := n1_
   have BK543 := n2_
   have BK555 := n3_
   have HB := n4_
   clear n0_ n1_ n2_ n3_ n4_
   have p556 : 0 ≤ (x13_2 : Int) := oda
   have q556 : x13_2 < (l0_0.length : Int) := oda
   obtain ⟨ad556, A556_0, c556_0, e556, hx556_0, hl556_0, hi556_0⟩ := at_L4 HR0_0.out x13_2 p556 q556
   have hw556_0 := hx556_0
   obtain rfl : ad551 = ad556 := (by injection e556)
   replace hx556_0 := cel HB hx556_0
   have HR556_0 := Aside0.mk hi556_0
   have HC556_0 := Aside0.mk hl556_0
   clear hi556_0 hl556_0
   replace p556 := eq_true p556
   replace q556 := eq_true q556
   refine start_ (n := 13) (S := fun w' => w'.cell? ⟨gb555, 0, none⟩ = some (.slice Ao34 t552.length co34) ∧ w'.cell? ⟨gb543, 0, none⟩ = some (.slice (some ad551) l0_0.length c0_0) ∧ w'.cell? (ad551.add (x13_2).toNat) = some (.slice A556_0 (rd_L4 l0_0 x13_2).length c556_0)) (ds := []) #[false, false, false, false, false, false, false, false, false, false, false, false, false] (by kernel_rfl) rfl rfl ⟨(blk_cell BK555.out 0).trans rfl, (blk_cell BK543.out 0).trans rfl, (cel HB hw556_0 :)⟩ (fun hHeld => ?_); refine with_tabW spec_AllowedStacks.tab12 spec_AllowedStacks.bits12 (fun HT_ HW_ => ?_)
   generalize w37.drew = w38 at HO_10 HO554 BK543 BK555 HB HR556_0 hx556_0 hHeld ⊢
   refine pu 1 (some 57) (bx 13 2) (h := ?_)
   refine pu 2 (some 58) (bx 13 6) (h := ?_)
   refine pu 3 (some 59) (bx 13 14) (h := ?_)
   refine pu 4 (some 60) (bx 13 30) (h := ?_)
   refine pu 6 (some 62) (bx 13 94) (h := ?_)
   refine tk3 0 (some 56) (bx 13 95) (h := ?_)
   refine tk3 5 (some 61) (bx 13 127) (h := ?_)
   refine pu 7 (some 63) (bx 13 255) (h := ?_)
   refine tk3 8 (some 64) (bx 13 511) (h := ?_)
   refine pu 9 (some 65) (bx 13 1023) (h := ?_)
   refine on 10 (some 66) (bx 13 2047) (h := fun K hK => ?_)
   refine goes_ Try.func27 (by kernel_rfl) rfl #[.agg #[.slice Ao34 t552.length co34], .slice A1 l1.length c1, .int .i64 a2, .int .i64 x13_2, .int .i64 ((rd_L4 l0_0 x13_2).length : Int)] (by rfl) rfl rfl gmp ?_
   with_reducible refine (spec_l7At.calls k2 _ _ t552 _ _ l1 a2 x13_2 ((rd_L4 l0_0 x13_2).length : Int) t557 _ ?side1 ?side2 ?side3 ?side4 A28.out).mono ?_
   (case side1 => repeat (exact (Kd.S_reads' HO554.out).2.2 ))
   (case side2 => exact (Kd.S_reads' HO554.out).2.1)
   (case side3 => exact cdl (Kd.C_below HR1.out HB.out))
   (case side4 => exact HC1.out)
   rintro e w39 ⟨v558, rfl, ho0, hb⟩
   refine ⟨_, rfl, ?_⟩
   have n0_ := Aside0.mk (Kd.R_below (rdl HO_10) hb)
   have n1_ := Aside0.mk (Kd.S_below (sdl HO554) hb)
   have n2_ := Aside0.mk (Kd.R_lower ho0 (below_size (bel2 HB GE543 GE555)))
   have n3_ := bkb BK543 hb
   have n4_ := bkb BK555 hb
   have n5_ := Aside0.mk (below_step (bel2 HB GE543 GE555) hb)
   clear HO_10 HO554 BK543 BK555 HB
   have HO_10 := n0_
   have HO554 := n1_
   have HO559 := n2_
   have BK543 := n3_
   have BK555 := n4_
   have HB := n5_
   clear n0_ n1_ n2_ n3_ n4_ n5_
   (try clear hb)
   (try clear ho0)
   obtain ⟨Ao40, co40, eo40⟩ := Kd.R_slice HO559.out
   (subst eo40 )
   refine hK.out _ _ ⟨(blk_cell BK555.out 0).trans rfl, (blk_cell BK543.out 0).trans rfl, (cel HB hw556_0 :)⟩ (fun hHeld => ?_)
   clear hK K
   refine nm 66 (h := ?_)
   refine pu 11 (some 67) (bx 13 4095) (h := ?_)
   refine pu 12 (some 68) (bx 13 8191) (h := ?_)
   refine done_ (done_of HT_.out (by kernel_rfl)) ?_
   try go_wp2_with (first | ((with_reducible refine gate_builtin (b := .append) (xs := #[.tmp 69, .tmp 71]) rfl ?_); (try (refine gate_guard (by rfl) ?_; dsimp only)); at_builtin; refine Kd.R_append (Kd.int .i64) (w0 := w) w.heap.size rfl (.tmp 69) (.tmp 71) 30 3 (.int .i64 0) 8 rfl Try.underlying30 info3 rfl (by decide) (by omega) u10 x10_2 x13_2 [.int .i64 x13_2] (fun _ => True) (fun _ => False) rfl rfl ?aP (fun _ hk => hk.elim) ?aF ?aO ?aB ?aS ?aL ?_; (case aP => exact rfl); (case aB => exact (bel2 HB GE543 GE555)); (case aF => exact (fun _ _ => trivial)); (case aO => exact (rdl HO_10)); (case aS => exact (below_size (bel2 HB GE543 GE555))); (case aL => have := LMc30.out; omega); intro v561 w41 ho hb hg hat; rw [← Ny560.out] at ho; replace BK543 := Aside0.mk (blk_grown (g := gb543) (o := .cells #[.slice (some ad551) l0_0.length c0_0] 26 (0, 0)) (bkl BK543) hg (Kd.R_ne HO_10.out BK543.out (by decide))); replace HO554 := Aside0.mk (Kd.S_after (ok := (fun _ => True)) (by exact Kd.S_mono HO554.out (fun _ hk => ⟨trivial, hk⟩)) hg hat); replace BK555 := Aside0.mk (blk_grown (g := gb555) (o := .cells #[.slice Ao34 t552.length co34] 26 (0, 0)) (bkl BK555) hg (Kd.R_ne HO_10.out BK555.out (by decide))); replace HO559 := Aside0.mk (Kd.R_over' (rdl HO559) (Kd.R_typed (rdl HO_10)) (by decide) hg); replace HB := Aside0.mk (hb); have HO562 := Aside0.mk (ho); clear HO_10; clear ho hb hg hat))
   go_roundg k2
   case measure => have := HJ4.out; have := HK2.out; omega
   case rel => exact ⟨(y560), (wrap64 (x13_2 + 1)), (by rfl ), H', ⟨by have := HJ4.out; have := HK2.out; omega⟩, ⟨rdl HO562⟩, ⟨bkl BK543⟩, ⟨bel2 HB GE543 GE555⟩⟩
/-! ### laws_rInts: function 8 -/
def laws_rInts.l0 : Nat → List Int → List Int → Int → Option (Bool)
 | 0, _, _, _ => none
 | k + 1, x0, x1, x5 => if x5 < (x0.length : Int) then (if 0 ≤ x5 then (if x5 < (x1.length : Int) then (if (rd x0 x5) = (rd x1 x5) then (laws_rInts.l0 k x0 x1 (wrap64 (x5 + 1))) else (some false)) else (none)) else (none)) else (some true)
def laws_rInts.f (k : Nat) (l0 : List Int) (l1 : List Int) : Option (Bool) := if (l0.length : Int) = (l1.length : Int) then (laws_rInts.l0 k l0 l1 0) else (some false)
set_option maxHeartbeats 8000000 in
set_option maxRecDepth 100000 in
theorem laws_rInts.calls (k : Nat) (A0 : Option Addr) (c0 : Nat) (l0 : List Int) (A1 : Option Addr) (c1 : Nat) (l1 : List Int) (r : Bool) (w : World) (hr0 : Kd.C (Kd.int .i64) w A0 l0.length l0) (hc0 : l0.length ≤ c0) (hr1 : Kd.C (Kd.int .i64) w A1 l1.length l1) (hc1 : l1.length ≤ c1) (h : laws_rInts.f k l0 l1 = some r) :
  Calls Try.prog 8 #[.slice A0 l0.length c0, .slice A1 l1.length c1] w fun e w' => e = .returned (.bool r) ∧ Drawn0 w w' := by
 have HR0 := Aside0.mk hr0
 have HC0 := Aside0.mk hc0
 clear hr0 hc0
 have HR1 := Aside0.mk hr1
 have HC1 := Aside0.mk hc1
 clear hr1 hc1
 have H : (if (l0.length : Int) = (l1.length : Int) then (laws_rInts.l0 k l0 l1 0) else (some false)) = some r := h
 clear h
 by_cases c3 : (l0.length : Int) = (l1.length : Int)
 rotate_left
 ·rw [if_neg c3] at H
  have c3b0 : ((l0.length : Int) == (l1.length : Int)) = false := beq_eq_false_iff_ne.mpr c3
  have c3b1 : ((l0.length : Int) != (l1.length : Int)) = true := bne_iff_ne.mpr c3
  have c3b2 : (l0.length == l1.length) = false := by (simp at c3 ⊢; omega)
  obtain rfl := Option.some.inj H
  go_enter Try.func8, Try.ntmps8
  go_wp2
  repeat (go_quiet (fail))
  go_ret
  exact ⟨by rfl , by repeat (exact Drawn0.refl _ )⟩
 rw [if_pos c3] at H
 have c3b0 : ((l0.length : Int) == (l1.length : Int)) = true := beq_iff_eq.mpr c3
 have c3b1 : ((l0.length : Int) != (l1.length : Int)) = false := bne_eq_false_iff_eq.mpr c3
 have c3b2 : (l0.length == l1.length) = true := by (simp at c3 ⊢; omega)
 clear c3
 have H' := Aside0.mk H
 clear H
 go_enter Try.func8, Try.ntmps8
 go_wp2
 repeat (go_quiet (fail))
 go_loopg [5] k (fun kq v5 w' => ∃ (x5_1 : Int), v5 = .int .i64 x5_1 ∧ Aside0 (laws_rInts.l0 kq l0 l1 x5_1 = some r) ∧ Aside0 (kq ≤ k) ∧ Drawn0 w w')
 case atStart => exact ⟨(0), (by rfl ), H', ⟨Nat.le_refl _⟩, by repeat (exact Drawn0.refl _ )⟩
 clear H'
 try clear c3b0
 try clear c3b1
 try clear c3b2
 obtain ⟨x5_1, rfl, HA, HK1, ⟨m1, rfl⟩⟩ := hrel
 cases gk with
 | zero => exact absurd HA.out (by simp [laws_rInts.l0])
 | succ k1 =>
  have H := HA.out
  clear HA
  simp only [laws_rInts.l0] at H
  by_cases c4 : x5_1 < (l0.length : Int)
  rotate_left
  ·rw [if_neg c4] at H
   have c4b0 : decide (x5_1 < (l0.length : Int)) = false := decide_eq_false c4
   clear c4
   obtain rfl := Option.some.inj H
   go_wp2
   repeat (go_quiet (fail))
   go_ret
   exact ⟨by rfl , by repeat (first | exact Drawn0.refl _ | apply Drawn0.step)⟩
  rw [if_pos c4] at H
  have c4b0 : decide (x5_1 < (l0.length : Int)) = true := decide_eq_true c4
  clear c4
  by_cases c5 : 0 ≤ x5_1
  rotate_left
  ·rw [if_neg c5] at H
   exact absurd H (by simp)
  rw [if_pos c5] at H
  have c5b0 : decide (0 ≤ x5_1) = true := decide_eq_true c5
  clear c5
  by_cases c6 : x5_1 < (l1.length : Int)
  rotate_left
  ·rw [if_neg c6] at H
   exact absurd H (by simp)
  rw [if_pos c6] at H
  have c6b0 : decide (x5_1 < (l1.length : Int)) = true := decide_eq_true c6
  clear c6
  by_cases c7 : (rd l0 x5_1) = (rd l1 x5_1)
  rotate_left
  ·rw [if_neg c7] at H
   have c7b0 : ((rd l0 x5_1) == (rd l1 x5_1)) = false := beq_eq_false_iff_ne.mpr c7
   have c7b1 : ((rd l0 x5_1) != (rd l1 x5_1)) = true := bne_iff_ne.mpr c7
   obtain rfl := Option.some.inj H
   have p563 : 0 ≤ (x5_1 : Int) := oda
   have q563 : x5_1 < (l0.length : Int) := oda
   obtain ⟨ad563, e563, hx563_0⟩ := Kd.at_int HR0.out x5_1 p563 q563
   cases e563
   replace p563 := eq_true p563
   replace q563 := eq_true q563
   have p564 : 0 ≤ (x5_1 : Int) := oda
   have q564 : x5_1 < (l1.length : Int) := oda
   obtain ⟨ad564, e564, hx564_0⟩ := Kd.at_int HR1.out x5_1 p564 q564
   cases e564
   replace p564 := eq_true p564
   replace q564 := eq_true q564
   go_wp2
   repeat (go_quiet (fail); try go_wp2)
   go_ret
   exact ⟨by rfl , by repeat (first | exact Drawn0.refl _ | apply Drawn0.step)⟩
  rw [if_pos c7] at H
  have c7b0 : ((rd l0 x5_1) == (rd l1 x5_1)) = true := beq_iff_eq.mpr c7
  have c7b1 : ((rd l0 x5_1) != (rd l1 x5_1)) = false := bne_eq_false_iff_eq.mpr c7
  clear c7
  have H' := Aside0.mk H
  clear H
  have p563 : 0 ≤ (x5_1 : Int) := oda
  have q563 : x5_1 < (l0.length : Int) := oda
  obtain ⟨ad563, e563, hx563_0⟩ := Kd.at_int HR0.out x5_1 p563 q563
  cases e563
  replace p563 := eq_true p563
  replace q563 := eq_true q563
  have p564 : 0 ≤ (x5_1 : Int) := oda
  have q564 : x5_1 < (l1.length : Int) := oda
  obtain ⟨ad564, e564, hx564_0⟩ := Kd.at_int HR1.out x5_1 p564 q564
  cases e564
  replace p564 := eq_true p564
  replace q564 := eq_true q564
  go_wp2
  repeat (go_quiet (fail); try go_wp2)
  go_roundg k1
  case measure => have := HK1.out; omega
  case rel => exact ⟨(wrap64 (x5_1 + 1)), (by rfl ), H', ⟨by have := HK1.out; omega⟩, by repeat (first | exact Drawn0.refl _ | apply Drawn0.step)⟩
end Go.Proofs.Ytemildnlfjijmaa.P
