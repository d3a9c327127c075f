-- Written by a program of this session over the translation (a variant of the printer, see wip/gen); Lean checks it.
import Derived.Test.YtemildnlfjijmaaVC
import Derived.Test.YtemildnlfjijmaaPx0
import Derived.Test.YtemildnlfjijmaaPx10
import Derived.Test.YtemildnlfjijmaaPx11
import Derived.Test.YtemildnlfjijmaaPx12
import Derived.Test.YtemildnlfjijmaaPx13
namespace Go.Proofs.Ytemildnlfjijmaa.P
open Go.RowKit Go.Proofs.YtemildnlfjijmaaW.PrintWords Go.Proofs.YtemildnlfjijmaaW.PrintLast Go.Proofs.YtemildnlfjijmaaW.PrintMore
attribute [local go_sem] Go.Proofs.Ytemildnlfjijmaa.V.isSome_setCell max2_int min2_int max_two min_two max_three min_three max_four min_four
set_option linter.unusedVariables false
set_option linter.unusedSimpArgs false
/-! ### impl_IsValidContainers: function 39 -/
def impl_IsValidContainers.l0 : Nat → List (S71) → List (S71) → Int → Int → Option (Bool)
 | 0, _, _, _, _ => none
 | k + 1, x0, x5, x6, x7 => if x7 < x6 then (if 0 ≤ x7 then (if x7 < (x5.length : Int) then ((impl_IsValidContainer.f k ((rd_T71 x5 x7).f0) ((rd_T71 x5 x7).f1) ((rd_T71 x5 x7).f2) ((rd_T71 x5 x7).f3) ((rd_T71 x5 x7).f4)).bind fun t420 => (if t420 = true then (if x7 ≤ (x0.length : Int) then ((impl_indexOf.f (x0.take (x7 : Int).toNat) ((rd_T71 x5 x7).f0)).bind fun t425 => (if t425 ≥ 0 then (some false) else (impl_IsValidContainers.l0 k x0 x5 x6 (wrap64 (x7 + 1))))) else (none)) else (some false))) else (none)) else (none)) else (some (decide ((x0.length : Int) ≤ 12)))
def impl_IsValidContainers.f (k : Nat) (l0 : List (S71)) : Option (Bool) := impl_IsValidContainers.l0 k l0 l0 (l0.length : Int) 0
def impl_IsValidContainers.T4 : Bool × List (List Nat × List Nat) := (true, [([], []), ([0], [0]), ([1], [1]), ([2, 1], [2]), ([3], [3]), ([3], [3]), ([4, 5, 3], [3, 4, 5]), ([3], [3]), ([7, 3], [3, 7]), ([6, 8, 3, 3], [3, 6, 8]), ([9, 3], [3, 9]), ([3, 10], [3, 10])])
def impl_IsValidContainers.B4 : List Nat := [0, 1, 3, 7, 15, 15, 63, 15, 143, 511, 1023, 2047]
theorem impl_IsValidContainers.tab4 : rtab .any (opsOf Try.f39 4) = impl_IsValidContainers.T4 := by kernel_rfl
theorem impl_IsValidContainers.bits4 : waitsOk impl_IsValidContainers.T4.2 impl_IsValidContainers.B4 = true := by kernel_rfl
set_option maxHeartbeats 8000000 in
set_option maxRecDepth 100000 in
theorem impl_IsValidContainers.calls (k : Nat) (A0 : Option Addr) (c0 : Nat) (l0 : List (S71)) (r : Bool) (w : World) (hr0 : Kd.C k71 w A0 l0.length l0) (hc0 : l0.length ≤ c0) (h : impl_IsValidContainers.f k l0 = some r) :
  Calls Try.prog 39 #[.slice A0 l0.length c0] w fun e w' => e = .returned (.bool r) ∧ Below w.heap.size w w' := by
 have hu71 := Try.underlying71
 have HR0 := Aside0.mk hr0
 have HC0 := Aside0.mk hc0
 clear hr0 hc0
 have HB := Aside0.mk (Below.refl w.heap.size w)
 have H : (impl_IsValidContainers.l0 k l0 l0 (l0.length : Int) 0) = some r := h
 clear h
 have H' := Aside0.mk H
 clear H
 go_enter Try.func39, Try.ntmps39
 go_wp2
 go_loopg [7] k (fun kq v7 w' => ∃ (x7_1 : Int), v7 = .int .i64 x7_1 ∧ Aside0 (impl_IsValidContainers.l0 kq l0 l0 (l0.length : Int) x7_1 = some r) ∧ Aside0 (kq ≤ k) ∧ Aside0 (Below w.heap.size w w'))
 case atStart => exact ⟨(0), (by rfl ), H', ⟨Nat.le_refl _⟩, ⟨bel HB⟩⟩
 clear H'
 obtain ⟨x7_1, rfl, HA, HK1, HB⟩ := hrel
 cases gk with
 | zero => exact absurd HA.out (by simp [impl_IsValidContainers.l0])
 | succ k1 =>
  have H := HA.out
  clear HA
  simp only [impl_IsValidContainers.l0] at H
  by_cases c2 : x7_1 < (l0.length : Int)
  rotate_left
  ·rw [if_neg c2] at H
   have c2b0 : decide (x7_1 < (l0.length : Int)) = false := decide_eq_false c2
   clear c2
   obtain rfl := Option.some.inj H
   go_wp2
   go_ret
   exact ⟨by rfl , bel HB⟩
  rw [if_pos c2] at H
  have c2b0 : decide (x7_1 < (l0.length : Int)) = true := decide_eq_true c2
  clear c2
  by_cases c3 : 0 ≤ x7_1
  rotate_left
  ·rw [if_neg c3] at H
   exact absurd H (by simp)
  rw [if_pos c3] at H
  have c3b0 : decide (0 ≤ x7_1) = true := decide_eq_true c3
  clear c3
  by_cases c4 : x7_1 < (l0.length : Int)
  rotate_left
  ·rw [if_neg c4] at H
   exact absurd H (by simp)
  rw [if_pos c4] at H
  have c4b0 : decide (x7_1 < (l0.length : Int)) = true := decide_eq_true c4
  clear c4
  obtain ⟨t420, A5, H⟩ := bnd H
  try dsimp only at H
  by_cases c6 : t420 = true
  rotate_left
  ·replace c6 := Bool.eq_false_iff.mpr c6
   subst c6
   replace H : (some false) = some r := by rw [if_neg (show ¬ (false = true) by decide)] at H; exact H
   obtain rfl := Option.some.inj H
   have p418 : 0 ≤ (x7_1 : Int) := oda
   have q418 : x7_1 < (l0.length : Int) := oda
   obtain ⟨ad418, e418, hx418_0, hx418_1, hx418_2, hx418_3, hx418_4⟩ := at_T71 HR0.out x7_1 p418 q418
   cases e418
   replace hx418_0 := cel HB hx418_0
   replace hx418_1 := cel HB hx418_1
   replace hx418_2 := cel HB hx418_2
   replace hx418_3 := cel HB hx418_3
   replace hx418_4 := cel HB hx418_4
   replace p418 := eq_true p418
   replace q418 := eq_true q418
   try go_wp2_with (first | ((with_reducible refine gate_dst (N := 4) rfl ?_); refine box_event ?hg (N := 4) ?hd (cs := #[.string (⟨#[]⟩ : ByteArray), .int .i64 0, .int .i64 0, .int .i64 0, .int .i64 0]) (t := 71) ?hr ?_; (case hd | hg => rfl); (case hr => go_simp); intro gb419 hg w25 hbox hb; have BK419 := Aside0.mk (hbox); have GW419 := gsb (w := w) hg (bel HB); have GE419 := gsb (w := w) hg (bel HB); replace HB := Aside0.mk (below_step (bel HB) hb); clear hb hbox hg; obtain ⟨_, _, _, _, _, _, _, _, _, _⟩ := bf5 BK419))
   have n0_ : Aside0 ((((((w25.setCell ⟨gb419, 0, none⟩ (.string ((rd_T71 l0 x7_1).f0))).setCell ⟨gb419, 1, none⟩ (.int .i64 ((rd_T71 l0 x7_1).f1))).setCell ⟨gb419, 2, none⟩ (.int .i64 ((rd_T71 l0 x7_1).f2))).setCell ⟨gb419, 3, none⟩ (.int .i64 ((rd_T71 l0 x7_1).f3))).setCell ⟨gb419, 4, none⟩ (.int .i64 ((rd_T71 l0 x7_1).f4))).heap[gb419]? = some (.cells #[.string ((rd_T71 l0 x7_1).f0), .int .i64 ((rd_T71 l0 x7_1).f1), .int .i64 ((rd_T71 l0 x7_1).f2), .int .i64 ((rd_T71 l0 x7_1).f3), .int .i64 ((rd_T71 l0 x7_1).f4)] 71 (0, 0))) := ⟨by refine blk_put (cs := #[.string ((rd_T71 l0 x7_1).f0), .int .i64 ((rd_T71 l0 x7_1).f1), .int .i64 ((rd_T71 l0 x7_1).f2), .int .i64 ((rd_T71 l0 x7_1).f3), .int .i64 0]) ?_ 4 _ rfl; refine blk_put (cs := #[.string ((rd_T71 l0 x7_1).f0), .int .i64 ((rd_T71 l0 x7_1).f1), .int .i64 ((rd_T71 l0 x7_1).f2), .int .i64 0, .int .i64 0]) ?_ 3 _ rfl; refine blk_put (cs := #[.string ((rd_T71 l0 x7_1).f0), .int .i64 ((rd_T71 l0 x7_1).f1), .int .i64 0, .int .i64 0, .int .i64 0]) ?_ 2 _ rfl; refine blk_put (cs := #[.string ((rd_T71 l0 x7_1).f0), .int .i64 0, .int .i64 0, .int .i64 0, .int .i64 0]) ?_ 1 _ rfl; refine blk_put (cs := #[.string (⟨#[]⟩ : ByteArray), .int .i64 0, .int .i64 0, .int .i64 0, .int .i64 0]) ?_ 0 _ rfl; exact BK419.out⟩
   have n1_ : Aside0 (Below w.heap.size w (((((w25.setCell ⟨gb419, 0, none⟩ (.string ((rd_T71 l0 x7_1).f0))).setCell ⟨gb419, 1, none⟩ (.int .i64 ((rd_T71 l0 x7_1).f1))).setCell ⟨gb419, 2, none⟩ (.int .i64 ((rd_T71 l0 x7_1).f2))).setCell ⟨gb419, 3, none⟩ (.int .i64 ((rd_T71 l0 x7_1).f3))).setCell ⟨gb419, 4, none⟩ (.int .i64 ((rd_T71 l0 x7_1).f4)))) := ⟨bel1 HB GE419⟩
   (try clear BK419)
   (try clear HB)
   generalize (((((w25.setCell ⟨gb419, 0, none⟩ (.string ((rd_T71 l0 x7_1).f0))).setCell ⟨gb419, 1, none⟩ (.int .i64 ((rd_T71 l0 x7_1).f1))).setCell ⟨gb419, 2, none⟩ (.int .i64 ((rd_T71 l0 x7_1).f2))).setCell ⟨gb419, 3, none⟩ (.int .i64 ((rd_T71 l0 x7_1).f3))).setCell ⟨gb419, 4, none⟩ (.int .i64 ((rd_T71 l0 x7_1).f4))) = w27 at n0_ n1_ ⊢
   have BK419 := n0_
   have HB := n1_
   clear n0_ n1_
   have n0_ := Aside0.mk (blk_drew BK419.out)
   have n1_ := Aside0.mk (below_drew1 HB.out)
   clear BK419 HB
   have BK419 := n0_
   have HB := n1_
   clear n0_ n1_
   refine start_ (n := 12) (S := fun w' => w'.cell? ⟨gb419, 0, none⟩ = some (.string ((rd_T71 l0 x7_1).f0)) ∧ w'.cell? ⟨gb419, 1, none⟩ = some (.int .i64 ((rd_T71 l0 x7_1).f1)) ∧ w'.cell? ⟨gb419, 2, none⟩ = some (.int .i64 ((rd_T71 l0 x7_1).f2)) ∧ w'.cell? ⟨gb419, 3, none⟩ = some (.int .i64 ((rd_T71 l0 x7_1).f3)) ∧ w'.cell? ⟨gb419, 4, none⟩ = some (.int .i64 ((rd_T71 l0 x7_1).f4))) (ds := []) #[false, false, false, false, false, false, false, false, false, false, false, false] (by kernel_rfl) rfl rfl ⟨(blk_cell BK419.out 0).trans rfl, (blk_cell BK419.out 1).trans rfl, (blk_cell BK419.out 2).trans rfl, (blk_cell BK419.out 3).trans rfl, (blk_cell BK419.out 4).trans rfl⟩ (fun hHeld => ?_); refine with_tabW impl_IsValidContainers.tab4 impl_IsValidContainers.bits4 (fun HT_ HW_ => ?_)
   generalize w27.drew = w28 at BK419 HB hHeld ⊢
   refine tk5 0 (some 12) (bx 12 1) (h := ?_)
   refine on 1 (some 13) (bx 12 3) (h := fun K hK => ?_)
   refine goes_ Try.func52 (by kernel_rfl) rfl #[.agg #[.string ((rd_T71 l0 x7_1).f0), .int .i64 ((rd_T71 l0 x7_1).f1), .int .i64 ((rd_T71 l0 x7_1).f2), .int .i64 ((rd_T71 l0 x7_1).f3), .int .i64 ((rd_T71 l0 x7_1).f4)]] (by rfl) rfl rfl gmp ?_
   with_reducible refine (impl_IsValidContainer.calls k1 ((rd_T71 l0 x7_1).f0) ((rd_T71 l0 x7_1).f1) ((rd_T71 l0 x7_1).f2) ((rd_T71 l0 x7_1).f3) ((rd_T71 l0 x7_1).f4) false _ A5.out).mono ?_
   rintro e w29 ⟨rfl, hb⟩
   refine ⟨_, rfl, ?_⟩
   have n0_ := bkb BK419 hb
   have n1_ := Aside0.mk (below_step (bel1 HB GE419) hb)
   clear BK419 HB
   have BK419 := n0_
   have HB := n1_
   clear n0_ n1_
   (try clear hb)
   refine hK.out _ _ ⟨(blk_cell BK419.out 0).trans rfl, (blk_cell BK419.out 1).trans rfl, (blk_cell BK419.out 2).trans rfl, (blk_cell BK419.out 3).trans rfl, (blk_cell BK419.out 4).trans rfl⟩ (fun hHeld => ?_)
   clear hK K
   refine nm 13 (h := ?_)
   refine pu 2 (some 14) (bx 12 7) (h := ?_)
   refine pu 3 (some 15) (bx 12 15) (h := ?_)
   refine pure_ (i := 4) (N := some 16) (v := undef) (a' := ?_) #[true, true, true, true, true, false, false, false, false, false, false, false] rfl rfl (any_of HT_.out (by kernel_rfl)) (fun _ _ _ h => h) (Or.inr ⟨by rfl, rfl⟩) ?_ ?_
   rotate_left
   ·simp only [putS]
    rfl
   refine pure_ (i := 5) (N := some 17) (v := undef) (a' := ?_) #[true, true, true, true, true, true, false, false, false, false, false, false] rfl rfl (any_of HT_.out (by kernel_rfl)) (fun _ _ _ h => h) (Or.inr ⟨by rfl, rfl⟩) ?_ ?_
   rotate_left
   ·simp only [putS]
    rfl
   refine pure_ (i := 6) (N := some 18) (v := undef) (a' := ?_) #[true, true, true, true, true, true, true, false, false, false, false, false] rfl rfl (any_of HT_.out (by kernel_rfl)) (fun _ _ _ h => h) (Or.inr ⟨by rfl, rfl⟩) ?_ ?_
   rotate_left
   ·simp only [putS]
    rfl
   refine pure_ (i := 7) (N := some 19) (v := undef) (a' := ?_) #[true, true, true, true, true, true, true, true, false, false, false, false] rfl rfl (any_of HT_.out (by kernel_rfl)) (fun _ _ _ h => h) (Or.inr ⟨by rfl, rfl⟩) ?_ ?_
   rotate_left
   ·simp only [putS]
    rfl
   refine pure_ (i := 8) (N := some 20) (v := undef) (a' := ?_) #[true, true, true, true, true, true, true, true, true, false, false, false] rfl rfl (any_of HT_.out (by kernel_rfl)) (fun _ _ _ h => h) (Or.inr ⟨by rfl, rfl⟩) ?_ ?_
   rotate_left
   ·simp only [putS]
    rfl
   refine pure_ (i := 9) (N := some 21) (v := undef) (a' := ?_) #[true, true, true, true, true, true, true, true, true, true, false, false] rfl rfl (any_of HT_.out (by kernel_rfl)) (fun _ _ _ h => h) (Or.inr ⟨by rfl, rfl⟩) ?_ ?_
   rotate_left
   ·simp only [putS]
    rfl
   refine pure_ (i := 10) (N := some 22) (v := undef) (a' := ?_) #[true, true, true, true, true, true, true, true, true, true, true, false] rfl rfl (any_of HT_.out (by kernel_rfl)) (fun _ _ _ h => h) (Or.inr ⟨by rfl, rfl⟩) ?_ ?_
   rotate_left
   ·simp only [putS]
    rfl
   refine pu 11 (some 23) (bx 12 4095) (h := ?_)
   refine done_ (done_of HT_.out (by kernel_rfl)) ?_
   try go_wp2
   go_ret
   exact ⟨by rfl , bel1 HB GE419⟩
  subst c6
  replace H : (if x7_1 ≤ (l0.length : Int) then ((impl_indexOf.f (l0.take (x7_1 : Int).toNat) ((rd_T71 l0 x7_1).f0)).bind fun t425 => (if t425 ≥ 0 then (some false) else (impl_IsValidContainers.l0 k1 l0 l0 (l0.length : Int) (wrap64 (x7_1 + 1))))) else (none)) = some r := by rw [if_pos rfl] at H; exact H
  have c7b0 := eq_true (oda : 0 ≤ x7_1)
  by_cases c8 : x7_1 ≤ (l0.length : Int)
  rotate_left
  ·rw [if_neg c8] at H
   exact absurd H (by simp)
  rw [if_pos c8] at H
  have c8b0 := eq_true c8
  have c8b1 : decide (x7_1 ≤ (l0.length : Int)) = true := decide_eq_true c8
  clear c8
  obtain ⟨y421, hy421⟩ : ∃ y_ : List (S71), y_ = (l0.take (x7_1 : Int).toNat) := ⟨_, rfl⟩
  replace H : ((impl_indexOf.f y421 ((rd_T71 l0 x7_1).f0)).bind fun t425 => (if t425 ≥ 0 then (some false) else (impl_IsValidContainers.l0 k1 l0 l0 (l0.length : Int) (wrap64 (x7_1 + 1))))) = some r := by (rw [hy421]; with_reducible exact H) 
  have Ny421 := Aside0.mk hy421
  clear hy421
  obtain ⟨t425, A9, H⟩ := bnd H
  try dsimp only at H
  by_cases c10 : t425 ≥ 0
  ·rw [if_pos c10] at H
   have c10b0 : decide (0 ≤ t425) = true := decide_eq_true c10
   clear c10
   obtain rfl := Option.some.inj H
   have p418 : 0 ≤ (x7_1 : Int) := oda
   have q418 : x7_1 < (l0.length : Int) := oda
   obtain ⟨ad418, e418, hx418_0, hx418_1, hx418_2, hx418_3, hx418_4⟩ := at_T71 HR0.out x7_1 p418 q418
   cases e418
   replace hx418_0 := cel HB hx418_0
   replace hx418_1 := cel HB hx418_1
   replace hx418_2 := cel HB hx418_2
   replace hx418_3 := cel HB hx418_3
   replace hx418_4 := cel HB hx418_4
   replace p418 := eq_true p418
   replace q418 := eq_true q418
   try go_wp2_with (first | ((with_reducible refine gate_dst (N := 4) rfl ?_); refine box_event ?hg (N := 4) ?hd (cs := #[.string (⟨#[]⟩ : ByteArray), .int .i64 0, .int .i64 0, .int .i64 0, .int .i64 0]) (t := 71) ?hr ?_; (case hd | hg => rfl); (case hr => go_simp); intro gb419 hg w11 hbox hb; have BK419 := Aside0.mk (hbox); have GW419 := gsb (w := w) hg (bel HB); have GE419 := gsb (w := w) hg (bel HB); replace HB := Aside0.mk (below_step (bel HB) hb); clear hb hbox hg; obtain ⟨_, _, _, _, _, _, _, _, _, _⟩ := bf5 BK419))
   have n0_ : Aside0 ((((((w11.setCell ⟨gb419, 0, none⟩ (.string ((rd_T71 l0 x7_1).f0))).setCell ⟨gb419, 1, none⟩ (.int .i64 ((rd_T71 l0 x7_1).f1))).setCell ⟨gb419, 2, none⟩ (.int .i64 ((rd_T71 l0 x7_1).f2))).setCell ⟨gb419, 3, none⟩ (.int .i64 ((rd_T71 l0 x7_1).f3))).setCell ⟨gb419, 4, none⟩ (.int .i64 ((rd_T71 l0 x7_1).f4))).heap[gb419]? = some (.cells #[.string ((rd_T71 l0 x7_1).f0), .int .i64 ((rd_T71 l0 x7_1).f1), .int .i64 ((rd_T71 l0 x7_1).f2), .int .i64 ((rd_T71 l0 x7_1).f3), .int .i64 ((rd_T71 l0 x7_1).f4)] 71 (0, 0))) := ⟨by refine blk_put (cs := #[.string ((rd_T71 l0 x7_1).f0), .int .i64 ((rd_T71 l0 x7_1).f1), .int .i64 ((rd_T71 l0 x7_1).f2), .int .i64 ((rd_T71 l0 x7_1).f3), .int .i64 0]) ?_ 4 _ rfl; refine blk_put (cs := #[.string ((rd_T71 l0 x7_1).f0), .int .i64 ((rd_T71 l0 x7_1).f1), .int .i64 ((rd_T71 l0 x7_1).f2), .int .i64 0, .int .i64 0]) ?_ 3 _ rfl; refine blk_put (cs := #[.string ((rd_T71 l0 x7_1).f0), .int .i64 ((rd_T71 l0 x7_1).f1), .int .i64 0, .int .i64 0, .int .i64 0]) ?_ 2 _ rfl; refine blk_put (cs := #[.string ((rd_T71 l0 x7_1).f0), .int .i64 0, .int .i64 0, .int .i64 0, .int .i64 0]) ?_ 1 _ rfl; refine blk_put (cs := #[.string (⟨#[]⟩ : ByteArray), .int .i64 0, .int .i64 0, .int .i64 0, .int .i64 0]) ?_ 0 _ rfl; exact BK419.out⟩
   have n1_ : Aside0 (Below w.heap.size w (((((w11.setCell ⟨gb419, 0, none⟩ (.string ((rd_T71 l0 x7_1).f0))).setCell ⟨gb419, 1, none⟩ (.int .i64 ((rd_T71 l0 x7_1).f1))).setCell ⟨gb419, 2, none⟩ (.int .i64 ((rd_T71 l0 x7_1).f2))).setCell ⟨gb419, 3, none⟩ (.int .i64 ((rd_T71 l0 x7_1).f3))).setCell ⟨gb419, 4, none⟩ (.int .i64 ((rd_T71 l0 x7_1).f4)))) := ⟨bel1 HB GE419⟩
   (try clear BK419)
   (try clear HB)
   generalize (((((w11.setCell ⟨gb419, 0, none⟩ (.string ((rd_T71 l0 x7_1).f0))).setCell ⟨gb419, 1, none⟩ (.int .i64 ((rd_T71 l0 x7_1).f1))).setCell ⟨gb419, 2, none⟩ (.int .i64 ((rd_T71 l0 x7_1).f2))).setCell ⟨gb419, 3, none⟩ (.int .i64 ((rd_T71 l0 x7_1).f3))).setCell ⟨gb419, 4, none⟩ (.int .i64 ((rd_T71 l0 x7_1).f4))) = w13 at n0_ n1_ ⊢
   have BK419 := n0_
   have HB := n1_
   clear n0_ n1_
   have n0_ := Aside0.mk (blk_drew BK419.out)
   have n1_ := Aside0.mk (below_drew1 HB.out)
   clear BK419 HB
   have BK419 := n0_
   have HB := n1_
   clear n0_ n1_
   refine start_ (n := 12) (S := fun w' => w'.cell? ⟨gb419, 0, none⟩ = some (.string ((rd_T71 l0 x7_1).f0)) ∧ w'.cell? ⟨gb419, 1, none⟩ = some (.int .i64 ((rd_T71 l0 x7_1).f1)) ∧ w'.cell? ⟨gb419, 2, none⟩ = some (.int .i64 ((rd_T71 l0 x7_1).f2)) ∧ w'.cell? ⟨gb419, 3, none⟩ = some (.int .i64 ((rd_T71 l0 x7_1).f3)) ∧ w'.cell? ⟨gb419, 4, none⟩ = some (.int .i64 ((rd_T71 l0 x7_1).f4))) (ds := []) #[false, false, false, false, false, false, false, false, false, false, false, false] (by kernel_rfl) rfl rfl ⟨(blk_cell BK419.out 0).trans rfl, (blk_cell BK419.out 1).trans rfl, (blk_cell BK419.out 2).trans rfl, (blk_cell BK419.out 3).trans rfl, (blk_cell BK419.out 4).trans rfl⟩ (fun hHeld => ?_); refine with_tabW impl_IsValidContainers.tab4 impl_IsValidContainers.bits4 (fun HT_ HW_ => ?_)
   generalize w13.drew = w14 at BK419 HB hHeld ⊢
   refine tk5 0 (some 12) (bx 12 1) (h := ?_)
   refine on 1 (some 13) (bx 12 3) (h := fun K hK => ?_)
   refine goes_ Try.func52 (by kernel_rfl) rfl #[.agg #[.string ((rd_T71 l0 x7_1).f0), .int .i64 ((rd_T71 l0 x7_1).f1), .int .i64 ((rd_T71 l0 x7_1).f2), .int .i64 ((rd_T71 l0 x7_1).f3), .int .i64 ((rd_T71 l0 x7_1).f4)]] (by rfl) rfl rfl gmp ?_
   with_reducible refine (impl_IsValidContainer.calls k1 ((rd_T71 l0 x7_1).f0) ((rd_T71 l0 x7_1).f1) ((rd_T71 l0 x7_1).f2) ((rd_T71 l0 x7_1).f3) ((rd_T71 l0 x7_1).f4) true _ A5.out).mono ?_
   rintro e w15 ⟨rfl, hb⟩
   refine ⟨_, rfl, ?_⟩
   have n0_ := bkb BK419 hb
   have n1_ := Aside0.mk (below_step (bel1 HB GE419) hb)
   clear BK419 HB
   have BK419 := n0_
   have HB := n1_
   clear n0_ n1_
   (try clear hb)
   have q16 : (x7_1 : Int) ≤ ((l0.length : Int) : Int) := oda
   obtain ⟨i016, hi016, _, hsz16, _⟩ := info_parts info71
   have hroom16 : l0.length ≤ c0 := HC0.out
   have hC16 : Kd.C k71 _ (some ad418) l0.length l0 := HR0.out
   have hcut16 := cut_to (P := Try.prog) 27 71 .i64 Try.underlying27 hi016 (some ad418) l0.length c0 x7_1 (oda) q16 hroom16
   have hr16 := Kd.C_take (m := (x7_1 : Int).toNat) hC16 (by omega)
   have hy16 : y421.length = (x7_1 : Int).toNat := (by rw [Ny421.out, List.length_take]; omega)
   rw [← Ny421.out] at hr16
   rw [← hy16] at hcut16
   have HR424 := Aside0.mk hr16
   have HC424 := Aside0.mk (show y421.length ≤ c0 from by omega)
   clear hr16 hC16 hroom16 hi016 hsz16
   have KY16 := Aside0.mk hy16
   clear hy16
   replace q16 := eq_true q16
   refine hK.out _ _ ⟨(blk_cell BK419.out 0).trans rfl, (blk_cell BK419.out 1).trans rfl, (blk_cell BK419.out 2).trans rfl, (blk_cell BK419.out 3).trans rfl, (blk_cell BK419.out 4).trans rfl⟩ (fun hHeld => ?_)
   clear hK K
   refine nm 13 (h := ?_)
   refine pu 2 (some 14) (bx 12 7) (h := ?_)
   refine pu 3 (some 15) (bx 12 15) (h := ?_)
   refine pu 4 (some 16) (bx 12 31) (h := ?_)
   refine pu 5 (some 17) (bx 12 63) (h := ?_)
   refine pu 6 (some 18) (bx 12 127) (h := ?_)
   refine pu 7 (some 19) (bx 12 255) (h := ?_)
   refine tk5 8 (some 20) (bx 12 511) (h := ?_)
   refine on 9 (some 21) (bx 12 1023) (h := fun K hK => ?_)
   refine goes_ Try.func53 (by kernel_rfl) rfl #[.slice (some ad418) y421.length c0, .string ((rd_T71 l0 x7_1).f0)] (by rfl) rfl rfl gmp ?_
   with_reducible refine (impl_indexOf.calls _ _ y421 ((rd_T71 l0 x7_1).f0) t425 _ ?side1 ?side2 A9.out).mono ?_
   (case side1 => exact cdl (Kd.C_below HR424.out HB.out))
   (case side2 => exact HC424.out)
   rintro e w17 ⟨rfl, hb⟩
   refine ⟨_, rfl, ?_⟩
   have n0_ := bkb BK419 hb
   have n1_ := Aside0.mk (below_step (bel1 HB GE419) hb)
   clear BK419 HB
   have BK419 := n0_
   have HB := n1_
   clear n0_ n1_
   (try clear hb)
   refine hK.out _ _ ⟨(blk_cell BK419.out 0).trans rfl, (blk_cell BK419.out 1).trans rfl, (blk_cell BK419.out 2).trans rfl, (blk_cell BK419.out 3).trans rfl, (blk_cell BK419.out 4).trans rfl⟩ (fun hHeld => ?_)
   clear hK K
   refine nm 21 (h := ?_)
   refine pu 10 (some 22) (bx 12 2047) (h := ?_)
   refine pu 11 (some 23) (bx 12 4095) (h := ?_)
   refine done_ (done_of HT_.out (by kernel_rfl)) ?_
   try go_wp2
   go_ret
   exact ⟨by rfl , bel1 HB GE419⟩
  rw [if_neg c10] at H
  have c10b0 : decide (0 ≤ t425) = false := decide_eq_false c10
  clear c10
  have H' := Aside0.mk H
  clear H
  have p418 : 0 ≤ (x7_1 : Int) := oda
  have q418 : x7_1 < (l0.length : Int) := oda
  obtain ⟨ad418, e418, hx418_0, hx418_1, hx418_2, hx418_3, hx418_4⟩ := at_T71 HR0.out x7_1 p418 q418
  cases e418
  replace hx418_0 := cel HB hx418_0
  replace hx418_1 := cel HB hx418_1
  replace hx418_2 := cel HB hx418_2
  replace hx418_3 := cel HB hx418_3
  replace hx418_4 := cel HB hx418_4
  replace p418 := eq_true p418
  replace q418 := eq_true q418
  try go_wp2_with (first | ((with_reducible refine gate_dst (N := 4) rfl ?_); refine box_event ?hg (N := 4) ?hd (cs := #[.string (⟨#[]⟩ : ByteArray), .int .i64 0, .int .i64 0, .int .i64 0, .int .i64 0]) (t := 71) ?hr ?_; (case hd | hg => rfl); (case hr => go_simp); intro gb419 hg w18 hbox hb; have BK419 := Aside0.mk (hbox); have GW419 := gsb (w := w) hg (bel HB); have GE419 := gsb (w := w) hg (bel HB); replace HB := Aside0.mk (below_step (bel HB) hb); clear hb hbox hg; obtain ⟨_, _, _, _, _, _, _, _, _, _⟩ := bf5 BK419))
  have n0_ : Aside0 ((((((w18.setCell ⟨gb419, 0, none⟩ (.string ((rd_T71 l0 x7_1).f0))).setCell ⟨gb419, 1, none⟩ (.int .i64 ((rd_T71 l0 x7_1).f1))).setCell ⟨gb419, 2, none⟩ (.int .i64 ((rd_T71 l0 x7_1).f2))).setCell ⟨gb419, 3, none⟩ (.int .i64 ((rd_T71 l0 x7_1).f3))).setCell ⟨gb419, 4, none⟩ (.int .i64 ((rd_T71 l0 x7_1).f4))).heap[gb419]? = some (.cells #[.string ((rd_T71 l0 x7_1).f0), .int .i64 ((rd_T71 l0 x7_1).f1), .int .i64 ((rd_T71 l0 x7_1).f2), .int .i64 ((rd_T71 l0 x7_1).f3), .int .i64 ((rd_T71 l0 x7_1).f4)] 71 (0, 0))) := ⟨by refine blk_put (cs := #[.string ((rd_T71 l0 x7_1).f0), .int .i64 ((rd_T71 l0 x7_1).f1), .int .i64 ((rd_T71 l0 x7_1).f2), .int .i64 ((rd_T71 l0 x7_1).f3), .int .i64 0]) ?_ 4 _ rfl; refine blk_put (cs := #[.string ((rd_T71 l0 x7_1).f0), .int .i64 ((rd_T71 l0 x7_1).f1), .int .i64 ((rd_T71 l0 x7_1).f2), .int .i64 0, .int .i64 0]) ?_ 3 _ rfl; refine blk_put (cs := #[.string ((rd_T71 l0 x7_1).f0), .int .i64 ((rd_T71 l0 x7_1).f1), .int .i64 0, .int .i64 0, .int .i64 0]) ?_ 2 _ rfl; refine blk_put (cs := #[.string ((rd_T71 l0 x7_1).f0), .int .i64 0, .int .i64 0, .int .i64 0, .int .i64 0]) ?_ 1 _ rfl; refine blk_put (cs := #[.string (⟨#[]⟩ : ByteArray), .int .i64 0, .int .i64 0, .int .i64 0, .int .i64 0]) ?_ 0 _ rfl; exact BK419.out⟩
  have n1_ : Aside0 (Below w.heap.size w (((((w18.setCell ⟨gb419, 0, none⟩ (.string ((rd_T71 l0 x7_1).f0))).setCell ⟨gb419, 1, none⟩ (.int .i64 ((rd_T71 l0 x7_1).f1))).setCell ⟨gb419, 2, none⟩ (.int .i64 ((rd_T71 l0 x7_1).f2))).setCell ⟨gb419, 3, none⟩ (.int .i64 ((rd_T71 l0 x7_1).f3))).setCell ⟨gb419, 4, none⟩ (.int .i64 ((rd_T71 l0 x7_1).f4)))) := ⟨bel1 HB GE419⟩
  (try clear BK419)
  (try clear HB)
  generalize (((((w18.setCell ⟨gb419, 0, none⟩ (.string ((rd_T71 l0 x7_1).f0))).setCell ⟨gb419, 1, none⟩ (.int .i64 ((rd_T71 l0 x7_1).f1))).setCell ⟨gb419, 2, none⟩ (.int .i64 ((rd_T71 l0 x7_1).f2))).setCell ⟨gb419, 3, none⟩ (.int .i64 ((rd_T71 l0 x7_1).f3))).setCell ⟨gb419, 4, none⟩ (.int .i64 ((rd_T71 l0 x7_1).f4))) = w20 at n0_ n1_ ⊢
  have BK419 := n0_
  have HB := n1_
  clear n0_ n1_
  have n0_ := Aside0.mk (blk_drew BK419.out)
  have n1_ := Aside0.mk (below_drew1 HB.out)
  clear BK419 HB
  have BK419 := n0_
  have HB := n1_
  clear n0_ n1_
  refine start_ (n := 12) (S := fun w' => w'.cell? ⟨gb419, 0, none⟩ = some (.string ((rd_T71 l0 x7_1).f0)) ∧ w'.cell? ⟨gb419, 1, none⟩ = some (.int .i64 ((rd_T71 l0 x7_1).f1)) ∧ w'.cell? ⟨gb419, 2, none⟩ = some (.int .i64 ((rd_T71 l0 x7_1).f2)) ∧ w'.cell? ⟨gb419, 3, none⟩ = some (.int .i64 ((rd_T71 l0 x7_1).f3)) ∧ w'.cell? ⟨gb419, 4, none⟩ = some (.int .i64 ((rd_T71 l0 x7_1).f4))) (ds := []) #[false, false, false, false, false, false, false, false, false, false, false, false] (by kernel_rfl) rfl rfl ⟨(blk_cell BK419.out 0).trans rfl, (blk_cell BK419.out 1).trans rfl, (blk_cell BK419.out 2).trans rfl, (blk_cell BK419.out 3).trans rfl, (blk_cell BK419.out 4).trans rfl⟩ (fun hHeld => ?_); refine with_tabW impl_IsValidContainers.tab4 impl_IsValidContainers.bits4 (fun HT_ HW_ => ?_)
  generalize w20.drew = w21 at BK419 HB hHeld ⊢
  refine tk5 0 (some 12) (bx 12 1) (h := ?_)
  refine on 1 (some 13) (bx 12 3) (h := fun K hK => ?_)
  refine goes_ Try.func52 (by kernel_rfl) rfl #[.agg #[.string ((rd_T71 l0 x7_1).f0), .int .i64 ((rd_T71 l0 x7_1).f1), .int .i64 ((rd_T71 l0 x7_1).f2), .int .i64 ((rd_T71 l0 x7_1).f3), .int .i64 ((rd_T71 l0 x7_1).f4)]] (by rfl) rfl rfl gmp ?_
  with_reducible refine (impl_IsValidContainer.calls k1 ((rd_T71 l0 x7_1).f0) ((rd_T71 l0 x7_1).f1) ((rd_T71 l0 x7_1).f2) ((rd_T71 l0 x7_1).f3) ((rd_T71 l0 x7_1).f4) true _ A5.out).mono ?_
  rintro e w22 ⟨rfl, hb⟩
  refine ⟨_, rfl, ?_⟩
  have n0_ := bkb BK419 hb
  have n1_ := Aside0.mk (below_step (bel1 HB GE419) hb)
  clear BK419 HB
  have BK419 := n0_
  have HB := n1_
  clear n0_ n1_
  (try clear hb)
  have q23 : (x7_1 : Int) ≤ ((l0.length : Int) : Int) := oda
  obtain ⟨i023, hi023, _, hsz23, _⟩ := info_parts info71
  have hroom23 : l0.length ≤ c0 := HC0.out
  have hC23 : Kd.C k71 _ (some ad418) l0.length l0 := HR0.out
  have hcut23 := cut_to (P := Try.prog) 27 71 .i64 Try.underlying27 hi023 (some ad418) l0.length c0 x7_1 (oda) q23 hroom23
  have hr23 := Kd.C_take (m := (x7_1 : Int).toNat) hC23 (by omega)
  have hy23 : y421.length = (x7_1 : Int).toNat := (by rw [Ny421.out, List.length_take]; omega)
  rw [← Ny421.out] at hr23
  rw [← hy23] at hcut23
  have HR424 := Aside0.mk hr23
  have HC424 := Aside0.mk (show y421.length ≤ c0 from by omega)
  clear hr23 hC23 hroom23 hi023 hsz23
  have KY23 := Aside0.mk hy23
  clear hy23
  replace q23 := eq_true q23
  refine hK.out _ _ ⟨(blk_cell BK419.out 0).trans rfl, (blk_cell BK419.out 1).trans rfl, (blk_cell BK419.out 2).trans rfl, (blk_cell BK419.out 3).trans rfl, (blk_cell BK419.out 4).trans rfl⟩ (fun hHeld => ?_)
  clear hK K
  refine nm 13 (h := ?_)
  refine pu 2 (some 14) (bx 12 7) (h := ?_)
  refine pu 3 (some 15) (bx 12 15) (h := ?_)
  refine pu 4 (some 16) (bx 12 31) (h := ?_)
  refine pu 5 (some 17) (bx 12 63) (h := ?_)
  refine pu 6 (some 18) (bx 12 127) (h := ?_)
  refine pu 7 (some 19) (bx 12 255) (h := ?_)
  refine tk5 8 (some 20) (bx 12 511) (h := ?_)
  refine on 9 (some 21) (bx 12 1023) (h := fun K hK => ?_)
  refine goes_ Try.func53 (by kernel_rfl) rfl #[.slice (some ad418) y421.length c0, .string ((rd_T71 l0 x7_1).f0)] (by rfl) rfl rfl gmp ?_
  with_reducible refine (impl_indexOf.calls _ _ y421 ((rd_T71 l0 x7_1).f0) t425 _ ?side1 ?side2 A9.out).mono ?_
  (case side1 => exact cdl (Kd.C_below HR424.out HB.out))
  (case side2 => exact HC424.out)
  rintro e w24 ⟨rfl, hb⟩
  refine ⟨_, rfl, ?_⟩
  have n0_ := bkb BK419 hb
  have n1_ := Aside0.mk (below_step (bel1 HB GE419) hb)
  clear BK419 HB
  have BK419 := n0_
  have HB := n1_
  clear n0_ n1_
  (try clear hb)
  refine hK.out _ _ ⟨(blk_cell BK419.out 0).trans rfl, (blk_cell BK419.out 1).trans rfl, (blk_cell BK419.out 2).trans rfl, (blk_cell BK419.out 3).trans rfl, (blk_cell BK419.out 4).trans rfl⟩ (fun hHeld => ?_)
  clear hK K
  refine nm 21 (h := ?_)
  refine pu 10 (some 22) (bx 12 2047) (h := ?_)
  refine pu 11 (some 23) (bx 12 4095) (h := ?_)
  refine done_ (done_of HT_.out (by kernel_rfl)) ?_
  try go_wp2
  go_roundg k1
  case measure => have := HK1.out; omega
  case rel => exact ⟨(wrap64 (x7_1 + 1)), (by rfl ), H', ⟨by have := HK1.out; omega⟩, ⟨bel1 HB GE419⟩⟩
/-! ### impl_areYard: function 20 -/
mutual
def impl_areYard.j0 : Nat → List (S71) → Bool → List (List Int) → Option (Bool)
 | 0, _, _, _ => none
 | k + 1, x1, x23, x427000 => if x23 = true then (some false) else (impl_areYard.l0 k x1 x427000 (x427000.length : Int) 0)
def impl_areYard.l0 : Nat → List (S71) → List (List Int) → Int → Int → Option (Bool)
 | 0, _, _, _, _ => none
 | k + 1, x1, x25, x26, x27 => if x27 < x26 then (if 0 ≤ x27 then (if x27 < (x25.length : Int) then (impl_areYard.l1 k x1 x25 x26 x27 (rd_L4 x25 x27) ((rd_L4 x25 x27).length : Int) 0) else (none)) else (none)) else (some true)
def impl_areYard.l1 : Nat → List (S71) → List (List Int) → Int → Int → List Int → Int → Int → Option (Bool)
 | 0, _, _, _, _, _, _, _ => none
 | k + 1, x1, x25, x26, x27, x31, x32, x33 => if x33 < x32 then (if 0 ≤ x33 then (if x33 < (x31.length : Int) then (if (rd x31 x33) > (x1.length : Int) then (some false) else (impl_areYard.l1 k x1 x25 x26 x27 x31 x32 (wrap64 (x33 + 1)))) else (none)) else (none)) else (impl_areYard.l0 k x1 x25 x26 (wrap64 (x27 + 1)))
end
def impl_areYard.f (k : Nat) (l0_0 : List (List Int)) (l1 : List (S71)) (a2 : Int) : Option (Bool) := (impl_IsValidYard.f l0_0).bind fun t427 => (if t427 = true then ((impl_IsValidContainers.f k l1).bind fun t428 => (if t428 = true then ((impl_within.f a2 0 6).bind fun t429 => (impl_areYard.j0 k l1 (!t429) l0_0)) else (impl_areYard.j0 k l1 true l0_0))) else (impl_areYard.j0 k l1 true l0_0))
set_option maxHeartbeats 8000000 in
set_option maxRecDepth 100000 in
theorem impl_areYard.calls (k : Nat) (A0_0 : Option Addr) (c0_0 : Nat) (l0_0 : List (List Int)) (A1 : Option Addr) (c1 : Nat) (l1 : List (S71)) (a2 : Int) (r : Bool) (w : World) (hr0_0 : Kd.C (Kd.slice 3 (Kd.int .i64)) w A0_0 l0_0.length l0_0) (hc0_0 : l0_0.length ≤ c0_0) (hr1 : Kd.C k71 w A1 l1.length l1) (hc1 : l1.length ≤ c1) (h : impl_areYard.f k l0_0 l1 a2 = some r) :
  Calls Try.prog 20 #[.agg #[.slice A0_0 l0_0.length c0_0], .slice A1 l1.length c1, .int .i64 a2] w fun e w' => e = .returned (.bool r) ∧ Below w.heap.size w w' := by
 have hu26 := Try.underlying26
 have HR0_0 := Aside0.mk hr0_0
 have HC0_0 := Aside0.mk hc0_0
 clear hr0_0 hc0_0
 have HR1 := Aside0.mk hr1
 have HC1 := Aside0.mk hc1
 clear hr1 hc1
 have HB := Aside0.mk (Below.refl w.heap.size w)
 have H : ((impl_IsValidYard.f l0_0).bind fun t427 => (if t427 = true then ((impl_IsValidContainers.f k l1).bind fun t428 => (if t428 = true then ((impl_within.f a2 0 6).bind fun t429 => (impl_areYard.j0 k l1 (!t429) l0_0)) else (impl_areYard.j0 k l1 true l0_0))) else (impl_areYard.j0 k l1 true l0_0))) = some r := h
 clear h
 have HC4 := Aside0.mk H
 clear H
 go_enter Try.func20, Try.ntmps20
 go_upto_region 1 with (first | ((with_reducible refine gate_dst (N := 3) rfl ?_); refine box_event ?hg (N := 3) ?hd (cs := #[.slice A0_0 l0_0.length c0_0]) (t := 26) ?hr ?_; (case hd | hg => rfl); (case hr => go_simp); intro gb426 hg w5 hbox hb; have BK426 := Aside0.mk (hbox); have GW426 := gsb (w := w) hg (bel HB); have GE426 := gsb (w := w) hg (bel HB); replace HB := Aside0.mk (below_step (bel HB) hb); clear hb hbox hg))
 go_cut [23] (fun v23 wc => ∃ (kq : Nat) (x23_3 : Bool), v23 = .bool x23_3 ∧ Aside0 (impl_areYard.j0 kq l1 x23_3 l0_0 = some r) ∧ Aside0 (kq ≤ k) ∧ Aside0 (wc.heap[gb426]? = some (.cells #[(.slice A0_0 l0_0.length c0_0)] 26 (0, 0))) ∧ Aside0 (Below w.heap.size w wc))
 case first =>
  have H := HC4.out
  clear HC4
  obtain ⟨t427, A6, H⟩ := bnd H
  try dsimp only at H
  by_cases c7 : t427 = true
  rotate_left
  ·replace c7 := Bool.eq_false_iff.mpr c7
   subst c7
   replace H : (impl_areYard.j0 k l1 true l0_0) = some r := by rw [if_neg (show ¬ (false = true) by decide)] at H; exact H
   have H' := Aside0.mk H
   clear H
   have hcz17_0 := bc BK426 0
   have hfz17_0 := blk_frozen BK426.out 0
   go_wp2_with (first | ((with_reducible refine gate_callee (f := 38) rfl ?_); refine goesL_ (some 12) rfl rfl Try.func38 (by kernel_rfl) rfl #[.agg #[.slice A0_0 l0_0.length c0_0]] rfl gmp ?_; (with_reducible refine (impl_IsValidYard.calls _ _ l0_0 false _ ?side1 ?side2 A6.out).mono ?_); (case side1 => exact cdl (Kd.C_below HR0_0.out HB.out)); (case side2 => exact HC0_0.out); rintro e w18 ⟨rfl, hb⟩; refine ⟨_, rfl, ?_⟩; replace BK426 := bkb BK426 hb; replace HB := Aside0.mk (below_step (bel1 HB GE426) hb); (try clear hb)))
   go_meet
   case rel => exact ⟨_, (true), (by rfl ), H', ⟨by omega ⟩, ⟨bkl BK426⟩, ⟨bel1 HB GE426⟩⟩
  subst c7
  replace H : ((impl_IsValidContainers.f k l1).bind fun t428 => (if t428 = true then ((impl_within.f a2 0 6).bind fun t429 => (impl_areYard.j0 k l1 (!t429) l0_0)) else (impl_areYard.j0 k l1 true l0_0))) = some r := by rw [if_pos rfl] at H; exact H
  obtain ⟨t428, A8, H⟩ := bnd H
  try dsimp only at H
  by_cases c9 : t428 = true
  rotate_left
  ·replace c9 := Bool.eq_false_iff.mpr c9
   subst c9
   replace H : (impl_areYard.j0 k l1 true l0_0) = some r := by rw [if_neg (show ¬ (false = true) by decide)] at H; exact H
   have H' := Aside0.mk H
   clear H
   have hcz14_0 := bc BK426 0
   have hfz14_0 := blk_frozen BK426.out 0
   go_wp2_with (first | ((with_reducible refine gate_callee (f := 38) rfl ?_); refine goesL_ (some 12) rfl rfl Try.func38 (by kernel_rfl) rfl #[.agg #[.slice A0_0 l0_0.length c0_0]] rfl gmp ?_; (with_reducible refine (impl_IsValidYard.calls _ _ l0_0 true _ ?side1 ?side2 A6.out).mono ?_); (case side1 => exact cdl (Kd.C_below HR0_0.out HB.out)); (case side2 => exact HC0_0.out); rintro e w15 ⟨rfl, hb⟩; refine ⟨_, rfl, ?_⟩; replace BK426 := bkb BK426 hb; replace HB := Aside0.mk (below_step (bel1 HB GE426) hb); (try clear hb)) | (go_at_call 39; (with_reducible refine (impl_IsValidContainers.calls k _ _ l1 false _ ?side1 ?side2 A8.out).mono ?_); (case side1 => exact cdl (Kd.C_below HR1.out HB.out)); (case side2 => exact HC1.out); rintro e w16 ⟨rfl, hb⟩; replace BK426 := bkb BK426 hb; replace HB := Aside0.mk (below_step (bel1 HB GE426) hb); (try clear hb)))
   go_meet
   case rel => exact ⟨_, (true), (by rfl ), H', ⟨by omega ⟩, ⟨bkl BK426⟩, ⟨bel1 HB GE426⟩⟩
  subst c9
  replace H : ((impl_within.f a2 0 6).bind fun t429 => (impl_areYard.j0 k l1 (!t429) l0_0)) = some r := by rw [if_pos rfl] at H; exact H
  obtain ⟨t429, A10, H⟩ := bnd H
  try dsimp only at H
  have H' := Aside0.mk H
  clear H
  have hcz11_0 := bc BK426 0
  have hfz11_0 := blk_frozen BK426.out 0
  go_wp2_with (first | ((with_reducible refine gate_callee (f := 38) rfl ?_); refine goesL_ (some 12) rfl rfl Try.func38 (by kernel_rfl) rfl #[.agg #[.slice A0_0 l0_0.length c0_0]] rfl gmp ?_; (with_reducible refine (impl_IsValidYard.calls _ _ l0_0 true _ ?side1 ?side2 A6.out).mono ?_); (case side1 => exact cdl (Kd.C_below HR0_0.out HB.out)); (case side2 => exact HC0_0.out); rintro e w12 ⟨rfl, hb⟩; refine ⟨_, rfl, ?_⟩; replace BK426 := bkb BK426 hb; replace HB := Aside0.mk (below_step (bel1 HB GE426) hb); (try clear hb)) | (go_at_call 39; (with_reducible refine (impl_IsValidContainers.calls k _ _ l1 true _ ?side1 ?side2 A8.out).mono ?_); (case side1 => exact cdl (Kd.C_below HR1.out HB.out)); (case side2 => exact HC1.out); rintro e w13 ⟨rfl, hb⟩; replace BK426 := bkb BK426 hb; replace HB := Aside0.mk (below_step (bel1 HB GE426) hb); (try clear hb)) | (go_at_call 21; (with_reducible refine (impl_within.calls a2 0 6 t429 _ A10.out).mono ?_); rintro e w' ⟨rfl, ⟨nd, rfl⟩⟩))
  go_meet
  case rel => exact ⟨_, (!t429), (by rfl ), H', ⟨by omega ⟩, ⟨bkl BK426⟩, ⟨bel1 HB GE426⟩⟩
 clear HC4
 obtain ⟨kq, x23_3, rfl, HA, HJ3, BK426, HB⟩ := hcut
 cases kq with
 | zero => exact absurd HA.out (by simp [impl_areYard.j0])
 | succ kj3 =>
  have H := HA.out
  clear HA
  simp only [impl_areYard.j0] at H
  by_cases c19 : x23_3 = true
  ·subst c19
   replace H : (some false) = some r := by rw [if_pos rfl] at H; exact H
   obtain rfl := Option.some.inj H
   go_wp2
   go_ret
   exact ⟨by rfl , bel1 HB GE426⟩
  replace c19 := Bool.eq_false_iff.mpr c19
  subst c19
  replace H : (impl_areYard.l0 kj3 l1 l0_0 (l0_0.length : Int) 0) = some r := by rw [if_neg (show ¬ (false = true) by decide)] at H; exact H
  have H' := Aside0.mk H
  clear H
  have hcz20_0 := bc BK426 0
  have hfz20_0 := blk_frozen BK426.out 0
  go_wp2
  go_loopg [27] kj3 (fun kq v27 w' => ∃ (x27_2 : Int), v27 = .int .i64 x27_2 ∧ Aside0 (impl_areYard.l0 kq l1 l0_0 (l0_0.length : Int) x27_2 = some r) ∧ Aside0 (kq ≤ kj3) ∧ Aside0 (w'.heap[gb426]? = some (.cells #[(.slice A0_0 l0_0.length c0_0)] 26 (0, 0))) ∧ Aside0 (Below w.heap.size w w'))
  case atStart => exact ⟨(0), (by rfl ), H', ⟨Nat.le_refl _⟩, ⟨bkl BK426⟩, ⟨bel1 HB GE426⟩⟩
  clear H'
  try clear hcz20_0
  try clear hfz20_0
  obtain ⟨x27_2, rfl, HA, HK2, BK426, HB⟩ := hrel
  cases gk with
  | zero => exact absurd HA.out (by simp [impl_areYard.l0])
  | succ k2 =>
   have H := HA.out
   clear HA
   simp only [impl_areYard.l0] at H
   by_cases c21 : x27_2 < (l0_0.length : Int)
   rotate_left
   ·rw [if_neg c21] at H
    have c21b0 : decide (x27_2 < (l0_0.length : Int)) = false := decide_eq_false c21
    clear c21
    obtain rfl := Option.some.inj H
    go_wp2
    go_ret
    exact ⟨by rfl , bel1 HB GE426⟩
   rw [if_pos c21] at H
   have c21b0 : decide (x27_2 < (l0_0.length : Int)) = true := decide_eq_true c21
   clear c21
   by_cases c22 : 0 ≤ x27_2
   rotate_left
   ·rw [if_neg c22] at H
    exact absurd H (by simp)
   rw [if_pos c22] at H
   have c22b0 : decide (0 ≤ x27_2) = true := decide_eq_true c22
   clear c22
   by_cases c23 : x27_2 < (l0_0.length : Int)
   rotate_left
   ·rw [if_neg c23] at H
    exact absurd H (by simp)
   rw [if_pos c23] at H
   have c23b0 : decide (x27_2 < (l0_0.length : Int)) = true := decide_eq_true c23
   clear c23
   have H' := Aside0.mk H
   clear H
   have p430 : 0 ≤ (x27_2 : Int) := oda
   have q430 : x27_2 < (l0_0.length : Int) := oda
   obtain ⟨ad430, A430_0, c430_0, e430, hx430_0, hl430_0, hi430_0⟩ := at_L4 HR0_0.out x27_2 p430 q430
   cases e430
   replace hx430_0 := cel HB hx430_0
   have HR430_0 := Aside0.mk hi430_0
   have HC430_0 := Aside0.mk hl430_0
   clear hi430_0 hl430_0
   replace p430 := eq_true p430
   replace q430 := eq_true q430
   go_wp2
   go_loopg [33] k2 (fun kq v33 w' => ∃ (x33_3 : Int), v33 = .int .i64 x33_3 ∧ Aside0 (impl_areYard.l1 kq l1 l0_0 (l0_0.length : Int) x27_2 (rd_L4 l0_0 x27_2) ((rd_L4 l0_0 x27_2).length : Int) x33_3 = some r) ∧ Aside0 (kq ≤ k2) ∧ Aside0 (w'.heap[gb426]? = some (.cells #[(.slice (some ad430) l0_0.length c0_0)] 26 (0, 0))) ∧ Aside0 (Below w.heap.size w w'))
   case atStart => exact ⟨(0), (by rfl ), H', ⟨Nat.le_refl _⟩, ⟨bkl BK426⟩, ⟨bel1 HB GE426⟩⟩
   clear H'
   try clear c21b0
   try clear c22b0
   try clear c23b0
   try clear hx430_0
   try clear p430
   try clear q430
   obtain ⟨x33_3, rfl, HA, HK3, BK426, HB⟩ := hrel
   cases gk with
   | zero => exact absurd HA.out (by simp [impl_areYard.l1])
   | succ k3 =>
    have H := HA.out
    clear HA
    simp only [impl_areYard.l1] at H
    by_cases c24 : x33_3 < ((rd_L4 l0_0 x27_2).length : Int)
    rotate_left
    ·rw [if_neg c24] at H
     have c24b0 : decide (x33_3 < ((rd_L4 l0_0 x27_2).length : Int)) = false := decide_eq_false c24
     clear c24
     have H' := Aside0.mk H
     clear H
     go_wp2
     go_roundg k3
     case measure => have := HJ3.out; have := HK2.out; have := HK3.out; omega
     case rel => exact ⟨(wrap64 (x27_2 + 1)), (by rfl ), H', ⟨by have := HJ3.out; have := HK2.out; have := HK3.out; omega⟩, ⟨bkl BK426⟩, ⟨bel1 HB GE426⟩⟩
    rw [if_pos c24] at H
    have c24b0 : decide (x33_3 < ((rd_L4 l0_0 x27_2).length : Int)) = true := decide_eq_true c24
    clear c24
    by_cases c25 : 0 ≤ x33_3
    rotate_left
    ·rw [if_neg c25] at H
     exact absurd H (by simp)
    rw [if_pos c25] at H
    have c25b0 : decide (0 ≤ x33_3) = true := decide_eq_true c25
    clear c25
    by_cases c26 : x33_3 < ((rd_L4 l0_0 x27_2).length : Int)
    rotate_left
    ·rw [if_neg c26] at H
     exact absurd H (by simp)
    rw [if_pos c26] at H
    have c26b0 : decide (x33_3 < ((rd_L4 l0_0 x27_2).length : Int)) = true := decide_eq_true c26
    clear c26
    by_cases c27 : (rd (rd_L4 l0_0 x27_2) x33_3) > (l1.length : Int)
    ·rw [if_pos c27] at H
     have c27b0 : decide ((l1.length : Int) < (rd (rd_L4 l0_0 x27_2) x33_3)) = true := decide_eq_true c27
     clear c27
     obtain rfl := Option.some.inj H
     have p431 : 0 ≤ (x33_3 : Int) := oda
     have q431 : x33_3 < ((rd_L4 l0_0 x27_2).length : Int) := oda
     obtain ⟨ad431, e431, hx431_0⟩ := Kd.at_int HR430_0.out x33_3 p431 q431
     cases e431
     replace hx431_0 := cel HB hx431_0
     replace p431 := eq_true p431
     replace q431 := eq_true q431
     go_wp2
     go_ret
     exact ⟨by rfl , bel1 HB GE426⟩
    rw [if_neg c27] at H
    have c27b0 : decide ((l1.length : Int) < (rd (rd_L4 l0_0 x27_2) x33_3)) = false := decide_eq_false c27
    clear c27
    have H' := Aside0.mk H
    clear H
    have p431 : 0 ≤ (x33_3 : Int) := oda
    have q431 : x33_3 < ((rd_L4 l0_0 x27_2).length : Int) := oda
    obtain ⟨ad431, e431, hx431_0⟩ := Kd.at_int HR430_0.out x33_3 p431 q431
    cases e431
    replace hx431_0 := cel HB hx431_0
    replace p431 := eq_true p431
    replace q431 := eq_true q431
    go_wp2
    go_roundg k3
    case measure => have := HJ3.out; have := HK2.out; have := HK3.out; omega
    case rel => exact ⟨(wrap64 (x33_3 + 1)), (by rfl ), H', ⟨by have := HJ3.out; have := HK2.out; have := HK3.out; omega⟩, ⟨bkl BK426⟩, ⟨bel1 HB GE426⟩⟩
end Go.Proofs.Ytemildnlfjijmaa.P
