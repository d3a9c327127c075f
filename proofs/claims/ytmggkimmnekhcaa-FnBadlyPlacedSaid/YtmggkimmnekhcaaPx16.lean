-- Written by a program of this session over the translation (a variant of the printer, see wip/gen); Lean checks it.
import Derived.Test.YtmggkimmnekhcaaPx0
import Derived.Test.YtmggkimmnekhcaaPx6
import Derived.Test.YtmggkimmnekhcaaPx7
import Derived.Test.YtmggkimmnekhcaaPx8
import Derived.Test.YtmggkimmnekhcaaPx14
namespace Go.Proofs.Ytmggkimmnekhcaa.P
open Go.RowKit Go.Proofs.YtmggkimmnekhcaaW.PrintWords Go.Proofs.YtmggkimmnekhcaaW.PrintLast Go.Proofs.YtmggkimmnekhcaaW.PrintMore
attribute [local go_sem] Go.Proofs.Ytmggkimmnekhcaa.V.isSome_setCell max2_int min2_int max_two min_two max_three min_three max_four min_four
set_option linter.unusedVariables false
set_option linter.unusedSimpArgs false
/-! ### slices_Contains_int_int: function 61 -/
def slices_Contains_int_int.f (k : Nat) (l0 : List Int) (a1 : Int) : Option (Bool) := (slices_Index_int_int.f k l0 a1).bind fun t369 => (some (decide (t369 ≥ 0)))
theorem slices_Contains_int_int.mono : ∀ a0 a1 k, LeO (slices_Contains_int_int.f k a0 a1) (slices_Contains_int_int.f (k + 1) a0 a1) := by
 intro a0 a1 k
 unfold slices_Contains_int_int.f
 repeat' first
   | (with_reducible exact slices_Index_int_int.mono _ _ _)
   | (with_reducible exact LeO.refl _)
   | (with_reducible exact LeO.none _)
   | (with_reducible refine LeO.ite ?_ ?_)
   | (with_reducible refine LeO.bind ?_ (fun _ => ?_))
   | exact slices_Index_int_int.mono _ _ _
   | exact LeO.none _
   | refine LeO.ite ?_ ?_
   | refine LeO.bind ?_ (fun _ => ?_)
set_option maxHeartbeats 8000000 in
set_option maxRecDepth 100000 in
theorem slices_Contains_int_int.calls (k : Nat) (A0 : Option Addr) (c0 : Nat) (l0 : List Int) (a1 : Int) (r : Bool) (w : World) (hr0 : Kd.C (Kd.int .i64) w A0 l0.length l0) (hc0 : l0.length ≤ c0) (h : slices_Contains_int_int.f k l0 a1 = some r) :
  Calls Try.prog 61 #[.slice A0 l0.length c0, .int .i64 a1] w fun e w' => e = .returned (.bool r) ∧ Drawn0 w w' := by
 have HR0 := Aside0.mk hr0
 have HC0 := Aside0.mk hc0
 clear hr0 hc0
 have H : ((slices_Index_int_int.f k l0 a1).bind fun t369 => (some (decide (t369 ≥ 0)))) = some r := h
 clear h
 replace H := Option.bind_eq_some_iff.mp H
 obtain ⟨t369, A30, H⟩ := H
 replace H : (some (decide (t369 ≥ 0))) = some r := H
 have A3 := Aside0.mk A30
 clear A30
 obtain rfl := Option.some.inj H
 go_enter Try.func61, Try.ntmps61
 go_wp2_with (first | ((with_reducible refine gate_callee (f := 59) rfl ?_); refine goesL_ (some 7) rfl rfl Try.func59 (by kernel_rfl) rfl #[.slice A0 l0.length c0, .int .i64 a1] rfl gmp ?_; (with_reducible refine (slices_Index_int_int.calls k _ _ l0 a1 t369 _ ?side1 ?side2 A3.out).mono ?_); (case side1 => exact cdl HR0.out); (case side2 => exact HC0.out); rintro e w' ⟨rfl, ⟨nd, rfl⟩⟩; refine ⟨_, rfl, ?_⟩))
 go_ret
 exact ⟨by first | rfl | (simp; done) | (simp [*]; done), by repeat (first | exact Drawn0.refl _ | apply Drawn0.step)⟩
/-! ### impl_areArrivals: function 37 -/
mutual
def impl_areArrivals.j0 : Nat → List Int → Bool → List (List Int) → Option (Bool)
 | 0, _, _, _ => none
 | k + 1, x1, x16, x371000 => if x16 = true then (some false) else (impl_areArrivals.l0 k x1 x1 (x1.length : Int) 0 x371000)
def impl_areArrivals.l0 : Nat → List Int → List Int → Int → Int → List (List Int) → Option (Bool)
 | 0, _, _, _, _, _ => none
 | k + 1, x1, x17, x18, x19, x371000 => if x19 < x18 then (if 0 ≤ x19 then (if x19 < (x17.length : Int) then ((impl_placeOf.f k x371000 (rd x17 x19)).bind fun bt373 => ((impl_within.f (rd x17 x19) 1 99).bind fun t375 => (if t375 = true then (if bt373.1 ≥ 0 then (some false) else (if x19 ≤ (x1.length : Int) then ((slices_Contains_int_int.f k (x1.take (x19 : Int).toNat) (rd x17 x19)).bind fun t377 => (if t377 = true then (some false) else (impl_areArrivals.l0 k x1 x17 x18 (wrap64 (x19 + 1)) x371000))) else (none))) else (some false)))) else (none)) else (none)) else (some true)
end
def impl_areArrivals.f (k : Nat) (l0_0 : List (List Int)) (l1 : List Int) : Option (Bool) := (impl_IsValidYard.f l0_0).bind fun t371 => (if t371 = true then (impl_areArrivals.j0 k l1 (decide ((l1.length : Int) > 5)) l0_0) else (impl_areArrivals.j0 k l1 true l0_0))
theorem impl_areArrivals.mono_l : ∀ k, (∀ y0 y1 y2, LeO (impl_areArrivals.j0 k y0 y1 y2) (impl_areArrivals.j0 (k + 1) y0 y1 y2)) ∧ (∀ y0 y1 y2 y3 y4, LeO (impl_areArrivals.l0 k y0 y1 y2 y3 y4) (impl_areArrivals.l0 (k + 1) y0 y1 y2 y3 y4))
 | 0 => ⟨fun _ _ _ r h => by simp [impl_areArrivals.j0] at h, fun _ _ _ _ _ r h => by simp [impl_areArrivals.l0] at h⟩
 | k + 1 => by
  obtain ⟨ih0, ih1⟩ := impl_areArrivals.mono_l k
  refine ⟨?_, ?_⟩
  ·intro y0 y1 y2
   unfold impl_areArrivals.j0
   repeat' first
   | (with_reducible exact ih0 _ _ _)
   | (with_reducible exact ih1 _ _ _ _ _)
   | (with_reducible exact impl_placeOf.mono _ _ _)
   | (with_reducible exact slices_Contains_int_int.mono _ _ _)
   | (with_reducible exact LeO.refl _)
   | (with_reducible exact LeO.none _)
   | (with_reducible refine LeO.ite ?_ ?_)
   | (with_reducible refine LeO.bind ?_ (fun _ => ?_))
   | exact ih0 _ _ _
   | exact ih1 _ _ _ _ _
   | exact impl_placeOf.mono _ _ _
   | exact slices_Contains_int_int.mono _ _ _
   | exact LeO.none _
   | refine LeO.ite ?_ ?_
   | refine LeO.bind ?_ (fun _ => ?_)
  ·intro y0 y1 y2 y3 y4
   unfold impl_areArrivals.l0
   repeat' first
   | (with_reducible exact ih0 _ _ _)
   | (with_reducible exact ih1 _ _ _ _ _)
   | (with_reducible exact impl_placeOf.mono _ _ _)
   | (with_reducible exact slices_Contains_int_int.mono _ _ _)
   | (with_reducible exact LeO.refl _)
   | (with_reducible exact LeO.none _)
   | (with_reducible refine LeO.ite ?_ ?_)
   | (with_reducible refine LeO.bind ?_ (fun _ => ?_))
   | exact ih0 _ _ _
   | exact ih1 _ _ _ _ _
   | exact impl_placeOf.mono _ _ _
   | exact slices_Contains_int_int.mono _ _ _
   | exact LeO.none _
   | refine LeO.ite ?_ ?_
   | refine LeO.bind ?_ (fun _ => ?_)
theorem impl_areArrivals.mono : ∀ a0 a1 k, LeO (impl_areArrivals.f k a0 a1) (impl_areArrivals.f (k + 1) a0 a1) := by
 intro a0 a1 k
 obtain ⟨ih0, ih1⟩ := impl_areArrivals.mono_l k
 unfold impl_areArrivals.f
 repeat' first
   | (with_reducible exact ih0 _ _ _)
   | (with_reducible exact ih1 _ _ _ _ _)
   | (with_reducible exact impl_placeOf.mono _ _ _)
   | (with_reducible exact slices_Contains_int_int.mono _ _ _)
   | (with_reducible exact LeO.refl _)
   | (with_reducible exact LeO.none _)
   | (with_reducible refine LeO.ite ?_ ?_)
   | (with_reducible refine LeO.bind ?_ (fun _ => ?_))
   | exact ih0 _ _ _
   | exact ih1 _ _ _ _ _
   | exact impl_placeOf.mono _ _ _
   | exact slices_Contains_int_int.mono _ _ _
   | exact LeO.none _
   | refine LeO.ite ?_ ?_
   | refine LeO.bind ?_ (fun _ => ?_)
set_option maxHeartbeats 8000000 in
set_option maxRecDepth 100000 in
theorem impl_areArrivals.calls (k : Nat) (A0_0 : Option Addr) (c0_0 : Nat) (l0_0 : List (List Int)) (A1 : Option Addr) (c1 : Nat) (l1 : List Int) (r : Bool) (w : World) (hr0_0 : Kd.C (Kd.slice 3 (Kd.int .i64)) w A0_0 l0_0.length l0_0) (hc0_0 : l0_0.length ≤ c0_0) (hr1 : Kd.C (Kd.int .i64) w A1 l1.length l1) (hc1 : l1.length ≤ c1) (h : impl_areArrivals.f k l0_0 l1 = some r) :
  Calls Try.prog 37 #[.agg #[.slice A0_0 l0_0.length c0_0], .slice A1 l1.length c1] w fun e w' => e = .returned (.bool r) ∧ Below w.heap.size w w' := by
 have hu26 := Try.underlying26
 have HR0_0 := Aside0.mk hr0_0
 have HC0_0 := Aside0.mk hc0_0
 clear hr0_0 hc0_0
 have HR1 := Aside0.mk hr1
 have HC1 := Aside0.mk hc1
 clear hr1 hc1
 have HB := Aside0.mk (Below.refl w.heap.size w)
 have H : ((impl_IsValidYard.f l0_0).bind fun t371 => (if t371 = true then (impl_areArrivals.j0 k l1 (decide ((l1.length : Int) > 5)) l0_0) else (impl_areArrivals.j0 k l1 true l0_0))) = some r := h
 clear h
 have HC3 := Aside0.mk H
 clear H
 go_enter Try.func37, Try.ntmps37
 go_upto_region 1 with (first | ((with_reducible refine gate_dst (N := 2) rfl ?_); (try (refine gate_guard (by rfl) ?_; dsimp only)); refine box_event ?hg (N := 2) ?hd (cs := #[.slice A0_0 l0_0.length c0_0]) (t := 26) ?hr ?_; (case hd => rfl); (case hg => rfl); (case hr => first | (go_simp; done) | (go_simp; rfl)); intro gb370 hg w4 hbox hb; have n0_ := Aside0.mk (below_step (bel HB) hb); have n1_ := Aside0.mk (hbox); have n2_ := Aside0.mk ((by rw [hg]; exact (below_size (bel HB)) : w.heap.size ≤ gb370)); have n3_ := Aside0.mk ((by rw [hg]; exact (below_size (bel HB)) : w.heap.size ≤ gb370)); clear HB; have HB := n0_; have BK370 := n1_; have GW370 := n2_; have GE370 := n3_; clear n0_ n1_ n2_ n3_; clear hb hbox hg))
 (try simp only [Act.put, List.setIfInBounds_toArray, List.set_cons_zero, List.set_cons_succ])
 go_cut [16] (fun v16 wc => ∃ (kq : Nat) (x16_2 : Bool), v16 = .bool x16_2 ∧ Aside0 (impl_areArrivals.j0 kq l1 x16_2 l0_0 = some r) ∧ Aside0 (kq ≤ k) ∧ Aside0 (wc.heap[gb370]? = some (.cells #[(.slice A0_0 l0_0.length c0_0)] 26 (0, 0))) ∧ Aside0 (Below w.heap.size w wc))
 case first =>
  have H := HC3.out
  clear HC3
  replace H := Option.bind_eq_some_iff.mp H
  obtain ⟨t371, A50, H⟩ := H
  replace H : (if t371 = true then (impl_areArrivals.j0 k l1 (decide ((l1.length : Int) > 5)) l0_0) else (impl_areArrivals.j0 k l1 true l0_0)) = some r := H
  have A5 := Aside0.mk A50
  clear A50
  by_cases c6 : t371 = true
  ·subst c6
   have H1 : (impl_areArrivals.j0 k l1 (decide ((l1.length : Int) > 5)) l0_0) = some r := by rw [if_pos rfl] at H; exact H
   clear H
   have H := H1
   clear H1
   have H' := Aside0.mk H
   clear H
   have hcz7_0 : w4.cell? ⟨gb370, 0, none⟩ = some (.slice A0_0 l0_0.length c0_0) := (blk_cell BK370.out 0).trans rfl
   have hfz7_0 := blk_frozen BK370.out 0
   go_wp2_with (first | ((with_reducible refine gate_callee (f := 28) rfl ?_); refine goesL_ (some 10) rfl rfl Try.func28 (by kernel_rfl) rfl #[.agg #[.slice A0_0 l0_0.length c0_0]] rfl gmp ?_; (with_reducible refine (impl_IsValidYard.calls _ _ l0_0 true _ ?side1 ?side2 A5.out).mono ?_); (case side1 => exact cdl (Kd.C_below HR0_0.out HB.out)); (case side2 => exact HC0_0.out); rintro e w8 ⟨rfl, hb⟩; refine ⟨_, rfl, ?_⟩; have n0_ := Aside0.mk (blk_below (g := gb370) (o := .cells #[.slice A0_0 l0_0.length c0_0] 26 (0, 0)) (bkl BK370) hb); have n1_ := Aside0.mk (below_step (bel1 HB GE370) hb); clear BK370; clear HB; have BK370 := n0_; have HB := n1_; clear n0_ n1_; (try clear hb); (try clear hb2); (try clear hk); (try clear hi)))
   go_meet
   case rel => exact ⟨_, (decide ((l1.length : Int) > 5)), (by first | rfl | (simp; done) | (simp [*]; done)), H', ⟨by first | omega | exact Nat.le_refl _⟩, ⟨bkl BK370⟩, ⟨bel1 HB GE370⟩⟩
  replace c6 := Bool.eq_false_iff.mpr c6
  subst c6
  have H1 : (impl_areArrivals.j0 k l1 true l0_0) = some r := by rw [if_neg (show ¬ (false = true) by decide)] at H; exact H
  clear H
  have H := H1
  clear H1
  have H' := Aside0.mk H
  clear H
  have hcz9_0 : w4.cell? ⟨gb370, 0, none⟩ = some (.slice A0_0 l0_0.length c0_0) := (blk_cell BK370.out 0).trans rfl
  have hfz9_0 := blk_frozen BK370.out 0
  go_wp2_with (first | ((with_reducible refine gate_callee (f := 28) rfl ?_); refine goesL_ (some 10) rfl rfl Try.func28 (by kernel_rfl) rfl #[.agg #[.slice A0_0 l0_0.length c0_0]] rfl gmp ?_; (with_reducible refine (impl_IsValidYard.calls _ _ l0_0 false _ ?side1 ?side2 A5.out).mono ?_); (case side1 => exact cdl (Kd.C_below HR0_0.out HB.out)); (case side2 => exact HC0_0.out); rintro e w10 ⟨rfl, hb⟩; refine ⟨_, rfl, ?_⟩; have n0_ := Aside0.mk (blk_below (g := gb370) (o := .cells #[.slice A0_0 l0_0.length c0_0] 26 (0, 0)) (bkl BK370) hb); have n1_ := Aside0.mk (below_step (bel1 HB GE370) hb); clear BK370; clear HB; have BK370 := n0_; have HB := n1_; clear n0_ n1_; (try clear hb); (try clear hb2); (try clear hk); (try clear hi)))
  go_meet
  case rel => exact ⟨_, (true), (by first | rfl | (simp; done) | (simp [*]; done)), H', ⟨by first | omega | exact Nat.le_refl _⟩, ⟨bkl BK370⟩, ⟨bel1 HB GE370⟩⟩
 clear HC3
 try clear c1
 try clear c2
 try clear p2
 try clear c3
 try clear c6
 try clear hcz7_0
 try clear hcz9_0
 try clear hfz7_0
 try clear hfz9_0
 obtain ⟨kq, x16_2, rfl, HA, HJ2, BK370, HB⟩ := hcut
 cases kq with
 | zero => exact absurd HA.out (by simp [impl_areArrivals.j0])
 | succ kj2 =>
  have H := HA.out
  clear HA
  simp only [impl_areArrivals.j0] at H
  by_cases c11 : x16_2 = true
  ·subst c11
   have H1 : (some false) = some r := by rw [if_pos rfl] at H; exact H
   clear H
   have H := H1
   clear H1
   obtain rfl := Option.some.inj H
   go_wp2
   go_ret
   exact ⟨by first | rfl | (simp [errW_none, errW_some] <;> rfl) | (simp [*, errW_none, errW_some] <;> rfl), bel1 HB GE370⟩
  replace c11 := Bool.eq_false_iff.mpr c11
  subst c11
  have H1 : (impl_areArrivals.l0 kj2 l1 l1 (l1.length : Int) 0 l0_0) = some r := by rw [if_neg (show ¬ (false = true) by decide)] at H; exact H
  clear H
  have H := H1
  clear H1
  have H' := Aside0.mk H
  clear H
  go_wp2
  go_loopg [19] kj2 (fun kq v19 w' => ∃ (x19_2 : Int), v19 = .int .i64 x19_2 ∧ Aside0 (impl_areArrivals.l0 kq l1 l1 (l1.length : Int) x19_2 l0_0 = some r) ∧ Aside0 (kq ≤ kj2) ∧ Aside0 (w'.heap[gb370]? = some (.cells #[(.slice A0_0 l0_0.length c0_0)] 26 (0, 0))) ∧ Aside0 (Below w.heap.size w w'))
  case atStart => exact ⟨(0), (by first | rfl | (simp; done) | (simp [*]; done)), H', ⟨Nat.le_refl _⟩, ⟨bkl BK370⟩, ⟨bel1 HB GE370⟩⟩
  clear H'
  try clear c1
  try clear c2
  try clear p2
  try clear c3
  try clear c6
  try clear c11
  try clear hcz7_0
  try clear hcz9_0
  try clear hfz7_0
  try clear hfz9_0
  try clear p2
  obtain ⟨x19_2, rfl, HA, HK2, BK370, HB⟩ := hrel
  cases gk with
  | zero => exact absurd HA.out (by simp [impl_areArrivals.l0])
  | succ k2 =>
   have H := HA.out
   clear HA
   simp only [impl_areArrivals.l0] at H
   by_cases c12 : x19_2 < (l1.length : Int)
   rotate_left
   ·rw [if_neg c12] at H
    have c12b0 : decide (x19_2 < (l1.length : Int)) = false := decide_eq_false c12
    clear c12
    obtain rfl := Option.some.inj H
    go_wp2
    go_ret
    exact ⟨by first | rfl | (simp [errW_none, errW_some] <;> rfl) | (simp [*, errW_none, errW_some] <;> rfl), bel1 HB GE370⟩
   rw [if_pos c12] at H
   have c12b0 : decide (x19_2 < (l1.length : Int)) = true := decide_eq_true c12
   clear c12
   by_cases c13 : 0 ≤ x19_2
   rotate_left
   ·rw [if_neg c13] at H
    exact absurd H (by simp)
   rw [if_pos c13] at H
   have c13b0 : decide (0 ≤ x19_2) = true := decide_eq_true c13
   clear c13
   by_cases c14 : x19_2 < (l1.length : Int)
   rotate_left
   ·rw [if_neg c14] at H
    exact absurd H (by simp)
   rw [if_pos c14] at H
   have c14b0 : decide (x19_2 < (l1.length : Int)) = true := decide_eq_true c14
   clear c14
   replace H := Option.bind_eq_some_iff.mp H
   obtain ⟨⟨t373, t374⟩, A150, H⟩ := H
   replace H : ((impl_within.f (rd l1 x19_2) 1 99).bind fun t375 => (if t375 = true then (if t373 ≥ 0 then (some false) else (if x19_2 ≤ (l1.length : Int) then ((slices_Contains_int_int.f k2 (l1.take (x19_2 : Int).toNat) (rd l1 x19_2)).bind fun t377 => (if t377 = true then (some false) else (impl_areArrivals.l0 k2 l1 l1 (l1.length : Int) (wrap64 (x19_2 + 1)) l0_0))) else (none))) else (some false))) = some r := H
   have A15 := Aside0.mk A150
   clear A150
   replace H := Option.bind_eq_some_iff.mp H
   obtain ⟨t375, A160, H⟩ := H
   replace H : (if t375 = true then (if t373 ≥ 0 then (some false) else (if x19_2 ≤ (l1.length : Int) then ((slices_Contains_int_int.f k2 (l1.take (x19_2 : Int).toNat) (rd l1 x19_2)).bind fun t377 => (if t377 = true then (some false) else (impl_areArrivals.l0 k2 l1 l1 (l1.length : Int) (wrap64 (x19_2 + 1)) l0_0))) else (none))) else (some false)) = some r := H
   have A16 := Aside0.mk A160
   clear A160
   by_cases c17 : t375 = true
   rotate_left
   ·replace c17 := Bool.eq_false_iff.mpr c17
    subst c17
    have H1 : (some false) = some r := by rw [if_neg (show ¬ (false = true) by decide)] at H; exact H
    clear H
    have H := H1
    clear H1
    obtain rfl := Option.some.inj H
    have p372 : 0 ≤ (x19_2 : Int) := oda
    have q372 : x19_2 < (l1.length : Int) := oda
    obtain ⟨ad372, e372, hx372_0⟩ := Kd.at_int HR1.out x19_2 p372 q372
    cases e372
    replace hx372_0 := cel HB hx372_0
    replace p372 := eq_true p372
    replace q372 := eq_true q372
    have hcz31_0 : wr.cell? ⟨gb370, 0, none⟩ = some (.slice A0_0 l0_0.length c0_0) := (blk_cell BK370.out 0).trans rfl
    have hfz31_0 := blk_frozen BK370.out 0
    go_wp2_with (first | ((with_reducible refine gate_callee (f := 34) rfl ?_); refine goesL_ (some 27) rfl rfl Try.func34 (by kernel_rfl) rfl #[.agg #[.slice A0_0 l0_0.length c0_0], .int .i64 (rd l1 x19_2)] rfl gmp ?_; (with_reducible refine (impl_placeOf.calls k2 _ _ l0_0 (rd l1 x19_2) t373 t374 _ ?side1 ?side2 A15.out).mono ?_); (case side1 => exact cdl (Kd.C_below HR0_0.out HB.out)); (case side2 => exact HC0_0.out); rintro e w32 ⟨rfl, hb⟩; refine ⟨_, rfl, ?_⟩; have n0_ := Aside0.mk (blk_below (g := gb370) (o := .cells #[.slice A0_0 l0_0.length c0_0] 26 (0, 0)) (bkl BK370) hb); have n1_ := Aside0.mk (below_step (bel1 HB GE370) hb); clear BK370; clear HB; have BK370 := n0_; have HB := n1_; clear n0_ n1_; (try clear hb); (try clear hb2); (try clear hk); (try clear hi)) | ((with_reducible refine gate_callee (f := 54) rfl ?_); refine goesL_ (some 31) rfl rfl Try.func54 (by kernel_rfl) rfl #[.int .i64 (rd l1 x19_2), .int .i64 1, .int .i64 99] rfl gmp ?_; (with_reducible refine (impl_within.calls (rd l1 x19_2) 1 99 false _ A16.out).mono ?_); rintro e w' ⟨rfl, ⟨nd, rfl⟩⟩; refine ⟨_, rfl, ?_⟩))
    go_ret
    exact ⟨by first | rfl | (simp [errW_none, errW_some] <;> rfl) | (simp [*, errW_none, errW_some] <;> rfl), bel1 HB GE370⟩
   subst c17
   have H1 : (if t373 ≥ 0 then (some false) else (if x19_2 ≤ (l1.length : Int) then ((slices_Contains_int_int.f k2 (l1.take (x19_2 : Int).toNat) (rd l1 x19_2)).bind fun t377 => (if t377 = true then (some false) else (impl_areArrivals.l0 k2 l1 l1 (l1.length : Int) (wrap64 (x19_2 + 1)) l0_0))) else (none))) = some r := by rw [if_pos rfl] at H; exact H
   clear H
   have H := H1
   clear H1
   by_cases c18 : t373 ≥ 0
   ·rw [if_pos c18] at H
    have c18b0 : decide (0 ≤ t373) = true := decide_eq_true c18
    clear c18
    obtain rfl := Option.some.inj H
    have p372 : 0 ≤ (x19_2 : Int) := oda
    have q372 : x19_2 < (l1.length : Int) := oda
    obtain ⟨ad372, e372, hx372_0⟩ := Kd.at_int HR1.out x19_2 p372 q372
    cases e372
    replace hx372_0 := cel HB hx372_0
    replace p372 := eq_true p372
    replace q372 := eq_true q372
    have hcz19_0 : wr.cell? ⟨gb370, 0, none⟩ = some (.slice A0_0 l0_0.length c0_0) := (blk_cell BK370.out 0).trans rfl
    have hfz19_0 := blk_frozen BK370.out 0
    go_wp2_with (first | ((with_reducible refine gate_callee (f := 34) rfl ?_); refine goesL_ (some 27) rfl rfl Try.func34 (by kernel_rfl) rfl #[.agg #[.slice A0_0 l0_0.length c0_0], .int .i64 (rd l1 x19_2)] rfl gmp ?_; (with_reducible refine (impl_placeOf.calls k2 _ _ l0_0 (rd l1 x19_2) t373 t374 _ ?side1 ?side2 A15.out).mono ?_); (case side1 => exact cdl (Kd.C_below HR0_0.out HB.out)); (case side2 => exact HC0_0.out); rintro e w20 ⟨rfl, hb⟩; refine ⟨_, rfl, ?_⟩; have n0_ := Aside0.mk (blk_below (g := gb370) (o := .cells #[.slice A0_0 l0_0.length c0_0] 26 (0, 0)) (bkl BK370) hb); have n1_ := Aside0.mk (below_step (bel1 HB GE370) hb); clear BK370; clear HB; have BK370 := n0_; have HB := n1_; clear n0_ n1_; (try clear hb); (try clear hb2); (try clear hk); (try clear hi)) | ((with_reducible refine gate_callee (f := 54) rfl ?_); refine goesL_ (some 31) rfl rfl Try.func54 (by kernel_rfl) rfl #[.int .i64 (rd l1 x19_2), .int .i64 1, .int .i64 99] rfl gmp ?_; (with_reducible refine (impl_within.calls (rd l1 x19_2) 1 99 true _ A16.out).mono ?_); rintro e w' ⟨rfl, ⟨nd, rfl⟩⟩; refine ⟨_, rfl, ?_⟩))
    go_ret
    exact ⟨by first | rfl | (simp [errW_none, errW_some] <;> rfl) | (simp [*, errW_none, errW_some] <;> rfl), bel1 HB GE370⟩
   rw [if_neg c18] at H
   have c18b0 : decide (0 ≤ t373) = false := decide_eq_false c18
   clear c18
   have c21b0 := eq_true (oda : 0 ≤ x19_2)
   by_cases c22 : x19_2 ≤ (l1.length : Int)
   rotate_left
   ·rw [if_neg c22] at H
    exact absurd H (by simp)
   rw [if_pos c22] at H
   have c22b0 := eq_true c22
   have c22b1 : decide (x19_2 ≤ (l1.length : Int)) = true := decide_eq_true c22
   clear c22
   replace H := Option.bind_eq_some_iff.mp H
   obtain ⟨t377, A230, H⟩ := H
   replace H : (if t377 = true then (some false) else (impl_areArrivals.l0 k2 l1 l1 (l1.length : Int) (wrap64 (x19_2 + 1)) l0_0)) = some r := H
   have A23 := Aside0.mk A230
   clear A230
   by_cases c24 : t377 = true
   ·subst c24
    have H1 : (some false) = some r := by rw [if_pos rfl] at H; exact H
    clear H
    have H := H1
    clear H1
    obtain rfl := Option.some.inj H
    have p372 : 0 ≤ (x19_2 : Int) := oda
    have q372 : x19_2 < (l1.length : Int) := oda
    obtain ⟨ad372, e372, hx372_0⟩ := Kd.at_int HR1.out x19_2 p372 q372
    cases e372
    replace hx372_0 := cel HB hx372_0
    replace p372 := eq_true p372
    replace q372 := eq_true q372
    have hcz25_0 : wr.cell? ⟨gb370, 0, none⟩ = some (.slice A0_0 l0_0.length c0_0) := (blk_cell BK370.out 0).trans rfl
    have hfz25_0 := blk_frozen BK370.out 0
    go_wp2_with (first | ((with_reducible refine gate_callee (f := 34) rfl ?_); refine goesL_ (some 27) rfl rfl Try.func34 (by kernel_rfl) rfl #[.agg #[.slice A0_0 l0_0.length c0_0], .int .i64 (rd l1 x19_2)] rfl gmp ?_; (with_reducible refine (impl_placeOf.calls k2 _ _ l0_0 (rd l1 x19_2) t373 t374 _ ?side1 ?side2 A15.out).mono ?_); (case side1 => exact cdl (Kd.C_below HR0_0.out HB.out)); (case side2 => exact HC0_0.out); rintro e w26 ⟨rfl, hb⟩; refine ⟨_, rfl, ?_⟩; have n0_ := Aside0.mk (blk_below (g := gb370) (o := .cells #[.slice A0_0 l0_0.length c0_0] 26 (0, 0)) (bkl BK370) hb); have n1_ := Aside0.mk (below_step (bel1 HB GE370) hb); clear BK370; clear HB; have BK370 := n0_; have HB := n1_; clear n0_ n1_; (try clear hb); (try clear hb2); (try clear hk); (try clear hi)) | ((with_reducible refine gate_callee (f := 54) rfl ?_); refine goesL_ (some 31) rfl rfl Try.func54 (by kernel_rfl) rfl #[.int .i64 (rd l1 x19_2), .int .i64 1, .int .i64 99] rfl gmp ?_; (with_reducible refine (impl_within.calls (rd l1 x19_2) 1 99 true _ A16.out).mono ?_); rintro e w' ⟨rfl, ⟨nd, rfl⟩⟩; refine ⟨_, rfl, ?_⟩; obtain ⟨i027, hi027, _, hsz27, _⟩ := info_parts info3; obtain ⟨hcut27, hA27, hC27⟩ := print_take_of (P := Try.prog) (Value.int .i64) 0 28 3 .i64 Try.underlying28 hi027 hsz27 (some ad372) c1 l1 x19_2 (oda) (oda) HC1.out; have HR376 := Aside0.mk (Kd.C_of_reads (h1 := fun _ => rfl) (hA27 _ (Kd.reads_of_C HR1.out))); have HC376 := Aside0.mk hC27; clear hA27 hC27 hi027 hsz27) | (go_at_call 61; (with_reducible refine (Go.Proofs.Ytmggkimmnekhcaa.V.calls_len (n := (x19_2 : Int).toNat) (by rw [List.length_take]; have hq_ := of_decide_eq_true (show decide (x19_2 ≤ (l1.length : Int)) = true by assumption); omega) (slices_Contains_int_int.calls k2 _ _ (l1.take (x19_2 : Int).toNat) (rd l1 x19_2) true _ ?side1 ?side2 A23.out)).mono ?_); (case side1 => repeat (first | exact (Kd.C_below HR376.out (bel1 HB GE370)) | (with_reducible refine Kd.C_alloc ?_ _) | (with_reducible refine Kd.C_drewN ?_ _) | (with_reducible refine Kd.C_drew ?_))); (case side2 => exact HC376.out); rintro e w' ⟨rfl, ⟨nd, rfl⟩⟩))
    go_ret
    exact ⟨by first | rfl | (simp [errW_none, errW_some] <;> rfl) | (simp [*, errW_none, errW_some] <;> rfl), bel1 HB GE370⟩
   replace c24 := Bool.eq_false_iff.mpr c24
   subst c24
   have H1 : (impl_areArrivals.l0 k2 l1 l1 (l1.length : Int) (wrap64 (x19_2 + 1)) l0_0) = some r := by rw [if_neg (show ¬ (false = true) by decide)] at H; exact H
   clear H
   have H := H1
   clear H1
   have H' := Aside0.mk H
   clear H
   have p372 : 0 ≤ (x19_2 : Int) := oda
   have q372 : x19_2 < (l1.length : Int) := oda
   obtain ⟨ad372, e372, hx372_0⟩ := Kd.at_int HR1.out x19_2 p372 q372
   cases e372
   replace hx372_0 := cel HB hx372_0
   replace p372 := eq_true p372
   replace q372 := eq_true q372
   have hcz28_0 : wr.cell? ⟨gb370, 0, none⟩ = some (.slice A0_0 l0_0.length c0_0) := (blk_cell BK370.out 0).trans rfl
   have hfz28_0 := blk_frozen BK370.out 0
   go_wp2_with (first | ((with_reducible refine gate_callee (f := 34) rfl ?_); refine goesL_ (some 27) rfl rfl Try.func34 (by kernel_rfl) rfl #[.agg #[.slice A0_0 l0_0.length c0_0], .int .i64 (rd l1 x19_2)] rfl gmp ?_; (with_reducible refine (impl_placeOf.calls k2 _ _ l0_0 (rd l1 x19_2) t373 t374 _ ?side1 ?side2 A15.out).mono ?_); (case side1 => exact cdl (Kd.C_below HR0_0.out HB.out)); (case side2 => exact HC0_0.out); rintro e w29 ⟨rfl, hb⟩; refine ⟨_, rfl, ?_⟩; have n0_ := Aside0.mk (blk_below (g := gb370) (o := .cells #[.slice A0_0 l0_0.length c0_0] 26 (0, 0)) (bkl BK370) hb); have n1_ := Aside0.mk (below_step (bel1 HB GE370) hb); clear BK370; clear HB; have BK370 := n0_; have HB := n1_; clear n0_ n1_; (try clear hb); (try clear hb2); (try clear hk); (try clear hi)) | ((with_reducible refine gate_callee (f := 54) rfl ?_); refine goesL_ (some 31) rfl rfl Try.func54 (by kernel_rfl) rfl #[.int .i64 (rd l1 x19_2), .int .i64 1, .int .i64 99] rfl gmp ?_; (with_reducible refine (impl_within.calls (rd l1 x19_2) 1 99 true _ A16.out).mono ?_); rintro e w' ⟨rfl, ⟨nd, rfl⟩⟩; refine ⟨_, rfl, ?_⟩; obtain ⟨i030, hi030, _, hsz30, _⟩ := info_parts info3; obtain ⟨hcut30, hA30, hC30⟩ := print_take_of (P := Try.prog) (Value.int .i64) 0 28 3 .i64 Try.underlying28 hi030 hsz30 (some ad372) c1 l1 x19_2 (oda) (oda) HC1.out; have HR376 := Aside0.mk (Kd.C_of_reads (h1 := fun _ => rfl) (hA30 _ (Kd.reads_of_C HR1.out))); have HC376 := Aside0.mk hC30; clear hA30 hC30 hi030 hsz30) | (go_at_call 61; (with_reducible refine (Go.Proofs.Ytmggkimmnekhcaa.V.calls_len (n := (x19_2 : Int).toNat) (by rw [List.length_take]; have hq_ := of_decide_eq_true (show decide (x19_2 ≤ (l1.length : Int)) = true by assumption); omega) (slices_Contains_int_int.calls k2 _ _ (l1.take (x19_2 : Int).toNat) (rd l1 x19_2) false _ ?side1 ?side2 A23.out)).mono ?_); (case side1 => repeat (first | exact (Kd.C_below HR376.out (bel1 HB GE370)) | (with_reducible refine Kd.C_alloc ?_ _) | (with_reducible refine Kd.C_drewN ?_ _) | (with_reducible refine Kd.C_drew ?_))); (case side2 => exact HC376.out); rintro e w' ⟨rfl, ⟨nd, rfl⟩⟩))
   go_roundg k2
   case measure => have := HJ2.out; have := HK2.out; omega
   case rel => exact ⟨(wrap64 (x19_2 + 1)), (by first | rfl | (simp; done) | (simp [*]; done)), H', ⟨by have := HJ2.out; have := HK2.out; omega⟩, ⟨bkl BK370⟩, ⟨bel1 HB GE370⟩⟩
/-! ### impl_earliestOf: function 42 -/
def impl_earliestOf.f (l0 : List Int) : Option (Int) := if (l0.length : Int) = 0 then (some 100) else ((slices_Min_int_int.f l0).bind fun t378 => (some t378))
set_option maxHeartbeats 8000000 in
set_option maxRecDepth 100000 in
theorem impl_earliestOf.calls (A0 : Option Addr) (c0 : Nat) (l0 : List Int) (r : Int) (w : World) (hr0 : Kd.C (Kd.int .i64) w A0 l0.length l0) (hc0 : l0.length ≤ c0) (h : impl_earliestOf.f l0 = some r) :
  Calls Try.prog 42 #[.slice A0 l0.length c0] w fun e w' => e = .returned (.int .i64 r) ∧ Drawn0 w w' := by
 have HR0 := Aside0.mk hr0
 have HC0 := Aside0.mk hc0
 clear hr0 hc0
 have H : (if (l0.length : Int) = 0 then (some 100) else ((slices_Min_int_int.f l0).bind fun t378 => (some t378))) = some r := h
 clear h
 by_cases c2 : (l0.length : Int) = 0
 ·rw [if_pos c2] at H
  have c2b0 : ((l0.length : Int) == 0) = true := beq_iff_eq.mpr c2
  have c2b1 : ((l0.length : Int) != 0) = false := bne_eq_false_iff_eq.mpr c2
  clear c2
  obtain rfl := Option.some.inj H
  go_enter Try.func42, Try.ntmps42
  go_wp2
  go_ret
  exact ⟨by first | rfl | (simp; done) | (simp [*]; done), by repeat (first | exact Drawn0.refl _ | apply Drawn0.step)⟩
 rw [if_neg c2] at H
 have c2b0 : ((l0.length : Int) == 0) = false := beq_eq_false_iff_ne.mpr c2
 have c2b1 : ((l0.length : Int) != 0) = true := bne_iff_ne.mpr c2
 have c2b2 : ¬ (l0 = []) := fun h_ => c2 (by rw [h_]; rfl)
 replace H := Option.bind_eq_some_iff.mp H
 obtain ⟨t378, A30, H⟩ := H
 replace H : (some t378) = some r := H
 have A3 := Aside0.mk A30
 clear A30
 obtain rfl := Option.some.inj H
 go_enter Try.func42, Try.ntmps42
 go_wp2_with (first | ((with_reducible refine gate_callee (f := 58) rfl ?_); refine goesL_ (some 7) rfl rfl Try.func58 (by kernel_rfl) rfl #[.slice A0 l0.length c0] rfl gmp ?_; (with_reducible refine (slices_Min_int_int.calls _ _ l0 t378 _ ?side1 ?side2 A3.out).mono ?_); (case side1 => exact cdl HR0.out); (case side2 => exact HC0.out); rintro e w' ⟨rfl, ⟨nd, rfl⟩⟩; refine ⟨_, rfl, ?_⟩))
 go_ret
 exact ⟨by first | rfl | (simp; done) | (simp [*]; done), by repeat (first | exact Drawn0.refl _ | apply Drawn0.step)⟩
/-! ### impl_chooseStack: function 38 -/
mutual
def impl_chooseStack.l0 : Nat → Int → Int → List (List Int) → Int → Int → List (List Int) → Option (Int)
 | 0, _, _, _, _, _, _ => none
 | k + 1, x1, x5, x12, x13, x14, x380000 => if x14 < x13 then (if 0 ≤ x14 then (if x14 < (x12.length : Int) then ((impl_earliestOf.f (rd_L2 x12 x14)).bind fun t381 => (if ((rd_L2 x12 x14).length : Int) < 4 then (if t381 > x1 then (if x5 < 0 then (impl_chooseStack.l0 k x1 x14 x12 x13 (wrap64 (x14 + 1)) x380000) else (if 0 ≤ x5 then (if x5 < (x380000.length : Int) then ((impl_earliestOf.f (rd_L2 x380000 x5)).bind fun t383 => (if t381 < t383 then (impl_chooseStack.l0 k x1 x14 x12 x13 (wrap64 (x14 + 1)) x380000) else (impl_chooseStack.l0 k x1 x5 x12 x13 (wrap64 (x14 + 1)) x380000))) else (none)) else (none))) else (impl_chooseStack.l0 k x1 x5 x12 x13 (wrap64 (x14 + 1)) x380000)) else (impl_chooseStack.l0 k x1 x5 x12 x13 (wrap64 (x14 + 1)) x380000))) else (none)) else (none)) else (if x5 ≥ 0 then (some x5) else (impl_chooseStack.l1 k x5 x380000 (x380000.length : Int) 0 x380000))
def impl_chooseStack.l1 : Nat → Int → List (List Int) → Int → Int → List (List Int) → Option (Int)
 | 0, _, _, _, _, _ => none
 | k + 1, x5, x49, x50, x51, x380000 => if x51 < x50 then (if 0 ≤ x51 then (if x51 < (x49.length : Int) then (if ((rd_L2 x49 x51).length : Int) < 4 then (if x5 < 0 then (impl_chooseStack.l1 k x51 x49 x50 (wrap64 (x51 + 1)) x380000) else ((impl_earliestOf.f (rd_L2 x49 x51)).bind fun t385 => (if 0 ≤ x5 then (if x5 < (x380000.length : Int) then ((impl_earliestOf.f (rd_L2 x380000 x5)).bind fun t387 => (if t385 > t387 then (impl_chooseStack.l1 k x51 x49 x50 (wrap64 (x51 + 1)) x380000) else (impl_chooseStack.l1 k x5 x49 x50 (wrap64 (x51 + 1)) x380000))) else (none)) else (none)))) else (impl_chooseStack.l1 k x5 x49 x50 (wrap64 (x51 + 1)) x380000)) else (none)) else (none)) else (some x5)
end
def impl_chooseStack.f (k : Nat) (l0_0 : List (List Int)) (a1 : Int) : Option (Int) := impl_chooseStack.l0 k a1 (-1) l0_0 (l0_0.length : Int) 0 l0_0
theorem impl_chooseStack.mono_l : ∀ k, (∀ y0 y1 y2 y3 y4 y5, LeO (impl_chooseStack.l0 k y0 y1 y2 y3 y4 y5) (impl_chooseStack.l0 (k + 1) y0 y1 y2 y3 y4 y5)) ∧ (∀ y0 y1 y2 y3 y4, LeO (impl_chooseStack.l1 k y0 y1 y2 y3 y4) (impl_chooseStack.l1 (k + 1) y0 y1 y2 y3 y4))
 | 0 => ⟨fun _ _ _ _ _ _ r h => by simp [impl_chooseStack.l0] at h, fun _ _ _ _ _ r h => by simp [impl_chooseStack.l1] at h⟩
 | k + 1 => by
  obtain ⟨ih0, ih1⟩ := impl_chooseStack.mono_l k
  refine ⟨?_, ?_⟩
  ·intro y0 y1 y2 y3 y4 y5
   unfold impl_chooseStack.l0
   repeat' first
   | (with_reducible exact ih0 _ _ _ _ _ _)
   | (with_reducible exact ih1 _ _ _ _ _)
   | (with_reducible exact LeO.refl _)
   | (with_reducible exact LeO.none _)
   | (with_reducible refine LeO.ite ?_ ?_)
   | (with_reducible refine LeO.bind ?_ (fun _ => ?_))
   | exact ih0 _ _ _ _ _ _
   | exact ih1 _ _ _ _ _
   | exact LeO.none _
   | refine LeO.ite ?_ ?_
   | refine LeO.bind ?_ (fun _ => ?_)
  ·intro y0 y1 y2 y3 y4
   unfold impl_chooseStack.l1
   repeat' first
   | (with_reducible exact ih0 _ _ _ _ _ _)
   | (with_reducible exact ih1 _ _ _ _ _)
   | (with_reducible exact LeO.refl _)
   | (with_reducible exact LeO.none _)
   | (with_reducible refine LeO.ite ?_ ?_)
   | (with_reducible refine LeO.bind ?_ (fun _ => ?_))
   | exact ih0 _ _ _ _ _ _
   | exact ih1 _ _ _ _ _
   | exact LeO.none _
   | refine LeO.ite ?_ ?_
   | refine LeO.bind ?_ (fun _ => ?_)
theorem impl_chooseStack.mono : ∀ a0 a1 k, LeO (impl_chooseStack.f k a0 a1) (impl_chooseStack.f (k + 1) a0 a1) := by
 intro a0 a1 k
 obtain ⟨ih0, ih1⟩ := impl_chooseStack.mono_l k
 unfold impl_chooseStack.f
 repeat' first
   | (with_reducible exact ih0 _ _ _ _ _ _)
   | (with_reducible exact ih1 _ _ _ _ _)
   | (with_reducible exact LeO.refl _)
   | (with_reducible exact LeO.none _)
   | (with_reducible refine LeO.ite ?_ ?_)
   | (with_reducible refine LeO.bind ?_ (fun _ => ?_))
   | exact ih0 _ _ _ _ _ _
   | exact ih1 _ _ _ _ _
   | exact LeO.none _
   | refine LeO.ite ?_ ?_
   | refine LeO.bind ?_ (fun _ => ?_)
set_option maxHeartbeats 8000000 in
set_option maxRecDepth 100000 in
theorem impl_chooseStack.calls (k : Nat) (A0_0 : Option Addr) (c0_0 : Nat) (l0_0 : List (List Int)) (a1 : Int) (r : Int) (w : World) (hr0_0 : Kd.C (Kd.slice 3 (Kd.int .i64)) w A0_0 l0_0.length l0_0) (hc0_0 : l0_0.length ≤ c0_0) (h : impl_chooseStack.f k l0_0 a1 = some r) :
  Calls Try.prog 38 #[.agg #[.slice A0_0 l0_0.length c0_0], .int .i64 a1] w fun e w' => e = .returned (.int .i64 r) ∧ Below w.heap.size w w' := by
 have hu26 := Try.underlying26
 have HR0_0 := Aside0.mk hr0_0
 have HC0_0 := Aside0.mk hc0_0
 clear hr0_0 hc0_0
 have HB := Aside0.mk (Below.refl w.heap.size w)
 have H : (impl_chooseStack.l0 k a1 (-1) l0_0 (l0_0.length : Int) 0 l0_0) = some r := h
 clear h
 have H' := Aside0.mk H
 clear H
 go_enter Try.func38, Try.ntmps38
 go_wp2_with (first | ((with_reducible refine gate_dst (N := 2) rfl ?_); refine box_event ?hg (N := 2) ?hd (cs := #[.slice A0_0 l0_0.length c0_0]) (t := 26) ?hr ?_; (case hd => rfl); (case hg => rfl); (case hr => first | (go_simp; done) | (go_simp; rfl)); intro gb379 hg w3 hbox hb; have n0_ := Aside0.mk (below_step (bel HB) hb); have n1_ := Aside0.mk (hbox); have n2_ := Aside0.mk ((by rw [hg]; exact (below_size (bel HB)) : w.heap.size ≤ gb379)); have n3_ := Aside0.mk ((by rw [hg]; exact (below_size (bel HB)) : w.heap.size ≤ gb379)); clear HB; have HB := n0_; have BK379 := n1_; have GW379 := n2_; have GE379 := n3_; clear n0_ n1_ n2_ n3_; clear hb hbox hg; have hcz4_0 : w3.cell? ⟨gb379, 0, none⟩ = some (.slice A0_0 l0_0.length c0_0) := (blk_cell BK379.out 0).trans rfl; have hfz4_0 := blk_frozen BK379.out 0))
 repeat (go_quiet (first | ((with_reducible refine gate_dst (N := 2) rfl ?_); refine box_event ?hg (N := 2) ?hd (cs := #[.slice A0_0 l0_0.length c0_0]) (t := 26) ?hr ?_; (case hd => rfl); (case hg => rfl); (case hr => first | (go_simp; done) | (go_simp; rfl)); intro gb379 hg w3 hbox hb; have n0_ := Aside0.mk (below_step (bel HB) hb); have n1_ := Aside0.mk (hbox); have n2_ := Aside0.mk ((by rw [hg]; exact (below_size (bel HB)) : w.heap.size ≤ gb379)); have n3_ := Aside0.mk ((by rw [hg]; exact (below_size (bel HB)) : w.heap.size ≤ gb379)); clear HB; have HB := n0_; have BK379 := n1_; have GW379 := n2_; have GE379 := n3_; clear n0_ n1_ n2_ n3_; clear hb hbox hg; have hcz4_0 : w3.cell? ⟨gb379, 0, none⟩ = some (.slice A0_0 l0_0.length c0_0) := (blk_cell BK379.out 0).trans rfl; have hfz4_0 := blk_frozen BK379.out 0)); try go_wp2_with (first | ((with_reducible refine gate_dst (N := 2) rfl ?_); refine box_event ?hg (N := 2) ?hd (cs := #[.slice A0_0 l0_0.length c0_0]) (t := 26) ?hr ?_; (case hd => rfl); (case hg => rfl); (case hr => first | (go_simp; done) | (go_simp; rfl)); intro gb379 hg w3 hbox hb; have n0_ := Aside0.mk (below_step (bel HB) hb); have n1_ := Aside0.mk (hbox); have n2_ := Aside0.mk ((by rw [hg]; exact (below_size (bel HB)) : w.heap.size ≤ gb379)); have n3_ := Aside0.mk ((by rw [hg]; exact (below_size (bel HB)) : w.heap.size ≤ gb379)); clear HB; have HB := n0_; have BK379 := n1_; have GW379 := n2_; have GE379 := n3_; clear n0_ n1_ n2_ n3_; clear hb hbox hg; have hcz4_0 : w3.cell? ⟨gb379, 0, none⟩ = some (.slice A0_0 l0_0.length c0_0) := (blk_cell BK379.out 0).trans rfl; have hfz4_0 := blk_frozen BK379.out 0)))
 go_loopg [5, 14] k (fun kq v5 v14 w' => ∃ (x5_1 : Int) (x14_1 : Int), v5 = .int .i64 x5_1 ∧ v14 = .int .i64 x14_1 ∧ Aside0 (impl_chooseStack.l0 kq a1 x5_1 l0_0 (l0_0.length : Int) x14_1 l0_0 = some r) ∧ Aside0 (kq ≤ k) ∧ Aside0 (w'.heap[gb379]? = some (.cells #[(.slice A0_0 l0_0.length c0_0)] 26 (0, 0))) ∧ Aside0 (Below w.heap.size w w'))
 case atStart => exact ⟨((-1)), (0), (by first | rfl | (simp; done) | (simp [*]; done)), (by first | rfl | (simp; done) | (simp [*]; done)), H', ⟨Nat.le_refl _⟩, ⟨bkl BK379⟩, ⟨bel1 HB GE379⟩⟩
 clear H'
 try clear p2
 try clear c3
 try clear hcz4_0
 try clear hfz4_0
 obtain ⟨x5_1, x14_1, rfl, rfl, HA, HK1, BK379, HB⟩ := hrel
 cases gk with
 | zero => exact absurd HA.out (by simp [impl_chooseStack.l0])
 | succ k1 =>
  have H := HA.out
  clear HA
  simp only [impl_chooseStack.l0] at H
  by_cases c5 : x14_1 < (l0_0.length : Int)
  rotate_left
  ·rw [if_neg c5] at H
   have c5b0 : decide (x14_1 < (l0_0.length : Int)) = false := decide_eq_false c5
   clear c5
   by_cases c18 : x5_1 ≥ 0
   ·rw [if_pos c18] at H
    have c18b0 : decide (0 ≤ x5_1) = true := decide_eq_true c18
    clear c18
    obtain rfl := Option.some.inj H
    go_wp2
    repeat (go_quiet (fail); try go_wp2)
    go_ret
    exact ⟨by first | rfl | (simp [errW_none, errW_some] <;> rfl) | (simp [*, errW_none, errW_some] <;> rfl), bel1 HB GE379⟩
   rw [if_neg c18] at H
   have c18b0 : decide (0 ≤ x5_1) = false := decide_eq_false c18
   clear c18
   have H' := Aside0.mk H
   clear H
   have hcz19_0 : wr.cell? ⟨gb379, 0, none⟩ = some (.slice A0_0 l0_0.length c0_0) := (blk_cell BK379.out 0).trans rfl
   have hfz19_0 := blk_frozen BK379.out 0
   go_wp2
   repeat (go_quiet (fail); try go_wp2)
   go_loopg [5, 51] k1 (fun kq v5 v51 w' => ∃ (x5_2 : Int) (x51_2 : Int), v5 = .int .i64 x5_2 ∧ v51 = .int .i64 x51_2 ∧ Aside0 (impl_chooseStack.l1 kq x5_2 l0_0 (l0_0.length : Int) x51_2 l0_0 = some r) ∧ Aside0 (kq ≤ k1) ∧ Aside0 (w'.heap[gb379]? = some (.cells #[(.slice A0_0 l0_0.length c0_0)] 26 (0, 0))) ∧ Aside0 (Below w.heap.size w w'))
   case atStart => exact ⟨(x5_1), (0), (by first | rfl | (simp; done) | (simp [*]; done)), (by first | rfl | (simp; done) | (simp [*]; done)), H', ⟨Nat.le_refl _⟩, ⟨bkl BK379⟩, ⟨bel1 HB GE379⟩⟩
   clear H'
   try clear c1
   try clear p2
   try clear c3
   try clear p3
   try clear q3
   try clear hx3
   try clear c5
   try clear c5b0
   try clear c6
   try clear c6b0
   try clear p6
   try clear c7
   try clear c7b0
   try clear c9
   try clear c9b0
   try clear c9b1
   try clear c10
   try clear c10b0
   try clear c11
   try clear c11b0
   try clear c12
   try clear c12b0
   try clear c13
   try clear c13b0
   try clear c15
   try clear c15b0
   try clear c18
   try clear c18b0
   try clear hcz16_0
   try clear hcz17_0
   try clear hcz19_0
   try clear hcz4_0
   try clear hfz16_0
   try clear hfz17_0
   try clear hfz19_0
   try clear hfz4_0
   try clear hx380_0
   try clear hx382_0
   try clear p2
   try clear p380
   try clear p382
   try clear q380
   try clear q382
   obtain ⟨x5_2, x51_2, rfl, rfl, HA, HK2, BK379, HB⟩ := hrel
   cases gk with
   | zero => exact absurd HA.out (by simp [impl_chooseStack.l1])
   | succ k2 =>
    have H := HA.out
    clear HA
    simp only [impl_chooseStack.l1] at H
    by_cases c20 : x51_2 < (l0_0.length : Int)
    rotate_left
    ·rw [if_neg c20] at H
     have c20b0 : decide (x51_2 < (l0_0.length : Int)) = false := decide_eq_false c20
     clear c20
     obtain rfl := Option.some.inj H
     go_wp2
     repeat (go_quiet (fail); try go_wp2)
     go_ret
     exact ⟨by first | rfl | (simp [errW_none, errW_some] <;> rfl) | (simp [*, errW_none, errW_some] <;> rfl), bel1 HB GE379⟩
    rw [if_pos c20] at H
    have c20b0 : decide (x51_2 < (l0_0.length : Int)) = true := decide_eq_true c20
    clear c20
    by_cases c21 : 0 ≤ x51_2
    rotate_left
    ·rw [if_neg c21] at H
     exact absurd H (by simp)
    rw [if_pos c21] at H
    have c21b0 : decide (0 ≤ x51_2) = true := decide_eq_true c21
    clear c21
    by_cases c22 : x51_2 < (l0_0.length : Int)
    rotate_left
    ·rw [if_neg c22] at H
     exact absurd H (by simp)
    rw [if_pos c22] at H
    have c22b0 : decide (x51_2 < (l0_0.length : Int)) = true := decide_eq_true c22
    clear c22
    by_cases c23 : ((rd_L2 l0_0 x51_2).length : Int) < 4
    rotate_left
    ·rw [if_neg c23] at H
     have c23b0 : decide (((rd_L2 l0_0 x51_2).length : Int) < 4) = false := decide_eq_false c23
     have c23b1 : decide ((rd_L2 l0_0 x51_2).length < 4) = false := decide_eq_false (by omega)
     clear c23
     have H' := Aside0.mk H
     clear H
     have p384 : 0 ≤ (x51_2 : Int) := oda
     have q384 : x51_2 < (l0_0.length : Int) := oda
     obtain ⟨ad384, A384_0, c384_0, e384, hx384_0, hl384_0, hi384_0⟩ := at_L2 HR0_0.out x51_2 p384 q384
     cases e384
     replace hx384_0 := cel HB hx384_0
     have HR384_0 := Aside0.mk hi384_0
     have HC384_0 := Aside0.mk hl384_0
     clear hi384_0 hl384_0
     replace p384 := eq_true p384
     replace q384 := eq_true q384
     go_wp2
     repeat (go_quiet (fail); try go_wp2)
     go_roundg k2
     case measure => have := HK1.out; have := HK2.out; omega
     case rel => exact ⟨(x5_2), (wrap64 (x51_2 + 1)), (by first | rfl | (simp; done) | (simp [*]; done)), (by first | rfl | (simp; done) | (simp [*]; done)), H', ⟨by have := HK1.out; have := HK2.out; omega⟩, ⟨bkl BK379⟩, ⟨bel1 HB GE379⟩⟩
    rw [if_pos c23] at H
    have c23b0 : decide (((rd_L2 l0_0 x51_2).length : Int) < 4) = true := decide_eq_true c23
    have c23b1 : decide ((rd_L2 l0_0 x51_2).length < 4) = true := decide_eq_true (by omega)
    clear c23
    by_cases c24 : x5_2 < 0
    ·rw [if_pos c24] at H
     have c24b0 : decide (x5_2 < 0) = true := decide_eq_true c24
     clear c24
     have H' := Aside0.mk H
     clear H
     have p384 : 0 ≤ (x51_2 : Int) := oda
     have q384 : x51_2 < (l0_0.length : Int) := oda
     obtain ⟨ad384, A384_0, c384_0, e384, hx384_0, hl384_0, hi384_0⟩ := at_L2 HR0_0.out x51_2 p384 q384
     cases e384
     replace hx384_0 := cel HB hx384_0
     have HR384_0 := Aside0.mk hi384_0
     have HC384_0 := Aside0.mk hl384_0
     clear hi384_0 hl384_0
     replace p384 := eq_true p384
     replace q384 := eq_true q384
     go_wp2
     repeat (go_quiet (fail); try go_wp2)
     go_roundg k2
     case measure => have := HK1.out; have := HK2.out; omega
     case rel => exact ⟨(x51_2), (wrap64 (x51_2 + 1)), (by first | rfl | (simp; done) | (simp [*]; done)), (by first | rfl | (simp; done) | (simp [*]; done)), H', ⟨by have := HK1.out; have := HK2.out; omega⟩, ⟨bkl BK379⟩, ⟨bel1 HB GE379⟩⟩
    rw [if_neg c24] at H
    have c24b0 : decide (x5_2 < 0) = false := decide_eq_false c24
    clear c24
    replace H := Option.bind_eq_some_iff.mp H
    obtain ⟨t385, A250, H⟩ := H
    replace H : (if 0 ≤ x5_2 then (if x5_2 < (l0_0.length : Int) then ((impl_earliestOf.f (rd_L2 l0_0 x5_2)).bind fun t387 => (if t385 > t387 then (impl_chooseStack.l1 k2 x51_2 l0_0 (l0_0.length : Int) (wrap64 (x51_2 + 1)) l0_0) else (impl_chooseStack.l1 k2 x5_2 l0_0 (l0_0.length : Int) (wrap64 (x51_2 + 1)) l0_0))) else (none)) else (none)) = some r := H
    have A25 := Aside0.mk A250
    clear A250
    by_cases c26 : 0 ≤ x5_2
    rotate_left
    ·rw [if_neg c26] at H
     exact absurd H (by simp)
    rw [if_pos c26] at H
    have c26b0 : decide (0 ≤ x5_2) = true := decide_eq_true c26
    clear c26
    by_cases c27 : x5_2 < (l0_0.length : Int)
    rotate_left
    ·rw [if_neg c27] at H
     exact absurd H (by simp)
    rw [if_pos c27] at H
    have c27b0 : decide (x5_2 < (l0_0.length : Int)) = true := decide_eq_true c27
    clear c27
    replace H := Option.bind_eq_some_iff.mp H
    obtain ⟨t387, A280, H⟩ := H
    replace H : (if t385 > t387 then (impl_chooseStack.l1 k2 x51_2 l0_0 (l0_0.length : Int) (wrap64 (x51_2 + 1)) l0_0) else (impl_chooseStack.l1 k2 x5_2 l0_0 (l0_0.length : Int) (wrap64 (x51_2 + 1)) l0_0)) = some r := H
    have A28 := Aside0.mk A280
    clear A280
    by_cases c29 : t385 > t387
    ·rw [if_pos c29] at H
     have c29b0 : decide (t387 < t385) = true := decide_eq_true c29
     clear c29
     have H' := Aside0.mk H
     clear H
     have p384 : 0 ≤ (x51_2 : Int) := oda
     have q384 : x51_2 < (l0_0.length : Int) := oda
     obtain ⟨ad384, A384_0, c384_0, e384, hx384_0, hl384_0, hi384_0⟩ := at_L2 HR0_0.out x51_2 p384 q384
     cases e384
     replace hx384_0 := cel HB hx384_0
     have HR384_0 := Aside0.mk hi384_0
     have HC384_0 := Aside0.mk hl384_0
     clear hi384_0 hl384_0
     replace p384 := eq_true p384
     replace q384 := eq_true q384
     go_wp2_with (first | (go_at_call 42; (with_reducible refine (impl_earliestOf.calls _ _ (rd_L2 l0_0 x51_2) t385 _ ?side1 ?side2 A25.out).mono ?_); (case side1 => exact cdl (Kd.C_below HR384_0.out HB.out)); (case side2 => exact HC384_0.out); rintro e w' ⟨rfl, ⟨nd, rfl⟩⟩; (try first | exact ⟨rfl, _, dd2⟩ | exact ⟨rfl, _, dd3⟩); have hcz30_0 : wr.cell? ⟨gb379, 0, none⟩ = some (.slice (some ad384) l0_0.length c0_0) := (blk_cell BK379.out 0).trans rfl; have hfz30_0 := blk_frozen BK379.out 0; have p386 : 0 ≤ (x5_2 : Int) := oda; have q386 : x5_2 < (l0_0.length : Int) := oda; obtain ⟨ad386, A386_0, c386_0, e386, hx386_0, hl386_0, hi386_0⟩ := at_L2 HR0_0.out x5_2 p386 q386; obtain rfl : ad384 = ad386 := (by injection e386); replace hx386_0 := cel HB hx386_0; have HR386_0 := Aside0.mk hi386_0; have HC386_0 := Aside0.mk hl386_0; clear hi386_0 hl386_0; replace p386 := eq_true p386; replace q386 := eq_true q386) | (go_at_call 42; (with_reducible refine (impl_earliestOf.calls _ _ (rd_L2 l0_0 x5_2) t387 _ ?side1 ?side2 A28.out).mono ?_); (case side1 => repeat (first | exact (Kd.C_below HR386_0.out (bel1 HB GE379)) | (with_reducible refine Kd.C_alloc ?_ _) | (with_reducible refine Kd.C_drewN ?_ _) | (with_reducible refine Kd.C_drew ?_))); (case side2 => exact HC386_0.out); rintro e w' ⟨rfl, ⟨nd, rfl⟩⟩; (try first | exact ⟨rfl, _, dd2⟩ | exact ⟨rfl, _, dd3⟩)))
     repeat (go_quiet (first | (go_at_call 42; (with_reducible refine (impl_earliestOf.calls _ _ (rd_L2 l0_0 x51_2) t385 _ ?side1 ?side2 A25.out).mono ?_); (case side1 => exact cdl (Kd.C_below HR384_0.out HB.out)); (case side2 => exact HC384_0.out); rintro e w' ⟨rfl, ⟨nd, rfl⟩⟩; (try first | exact ⟨rfl, _, dd2⟩ | exact ⟨rfl, _, dd3⟩); have hcz30_0 : wr.cell? ⟨gb379, 0, none⟩ = some (.slice (some ad384) l0_0.length c0_0) := (blk_cell BK379.out 0).trans rfl; have hfz30_0 := blk_frozen BK379.out 0; have p386 : 0 ≤ (x5_2 : Int) := oda; have q386 : x5_2 < (l0_0.length : Int) := oda; obtain ⟨ad386, A386_0, c386_0, e386, hx386_0, hl386_0, hi386_0⟩ := at_L2 HR0_0.out x5_2 p386 q386; obtain rfl : ad384 = ad386 := (by injection e386); replace hx386_0 := cel HB hx386_0; have HR386_0 := Aside0.mk hi386_0; have HC386_0 := Aside0.mk hl386_0; clear hi386_0 hl386_0; replace p386 := eq_true p386; replace q386 := eq_true q386) | (go_at_call 42; (with_reducible refine (impl_earliestOf.calls _ _ (rd_L2 l0_0 x5_2) t387 _ ?side1 ?side2 A28.out).mono ?_); (case side1 => repeat (first | exact (Kd.C_below HR386_0.out (bel1 HB GE379)) | (with_reducible refine Kd.C_alloc ?_ _) | (with_reducible refine Kd.C_drewN ?_ _) | (with_reducible refine Kd.C_drew ?_))); (case side2 => exact HC386_0.out); rintro e w' ⟨rfl, ⟨nd, rfl⟩⟩; (try first | exact ⟨rfl, _, dd2⟩ | exact ⟨rfl, _, dd3⟩))); try go_wp2_with (first | (go_at_call 42; (with_reducible refine (impl_earliestOf.calls _ _ (rd_L2 l0_0 x51_2) t385 _ ?side1 ?side2 A25.out).mono ?_); (case side1 => exact cdl (Kd.C_below HR384_0.out HB.out)); (case side2 => exact HC384_0.out); rintro e w' ⟨rfl, ⟨nd, rfl⟩⟩; (try first | exact ⟨rfl, _, dd2⟩ | exact ⟨rfl, _, dd3⟩); have hcz30_0 : wr.cell? ⟨gb379, 0, none⟩ = some (.slice (some ad384) l0_0.length c0_0) := (blk_cell BK379.out 0).trans rfl; have hfz30_0 := blk_frozen BK379.out 0; have p386 : 0 ≤ (x5_2 : Int) := oda; have q386 : x5_2 < (l0_0.length : Int) := oda; obtain ⟨ad386, A386_0, c386_0, e386, hx386_0, hl386_0, hi386_0⟩ := at_L2 HR0_0.out x5_2 p386 q386; obtain rfl : ad384 = ad386 := (by injection e386); replace hx386_0 := cel HB hx386_0; have HR386_0 := Aside0.mk hi386_0; have HC386_0 := Aside0.mk hl386_0; clear hi386_0 hl386_0; replace p386 := eq_true p386; replace q386 := eq_true q386) | (go_at_call 42; (with_reducible refine (impl_earliestOf.calls _ _ (rd_L2 l0_0 x5_2) t387 _ ?side1 ?side2 A28.out).mono ?_); (case side1 => repeat (first | exact (Kd.C_below HR386_0.out (bel1 HB GE379)) | (with_reducible refine Kd.C_alloc ?_ _) | (with_reducible refine Kd.C_drewN ?_ _) | (with_reducible refine Kd.C_drew ?_))); (case side2 => exact HC386_0.out); rintro e w' ⟨rfl, ⟨nd, rfl⟩⟩; (try first | exact ⟨rfl, _, dd2⟩ | exact ⟨rfl, _, dd3⟩))))
     go_roundg k2
     case measure => have := HK1.out; have := HK2.out; omega
     case rel => exact ⟨(x51_2), (wrap64 (x51_2 + 1)), (by first | rfl | (simp; done) | (simp [*]; done)), (by first | rfl | (simp; done) | (simp [*]; done)), H', ⟨by have := HK1.out; have := HK2.out; omega⟩, ⟨bkl BK379⟩, ⟨bel1 HB GE379⟩⟩
    rw [if_neg c29] at H
    have c29b0 : decide (t387 < t385) = false := decide_eq_false c29
    clear c29
    have H' := Aside0.mk H
    clear H
    have p384 : 0 ≤ (x51_2 : Int) := oda
    have q384 : x51_2 < (l0_0.length : Int) := oda
    obtain ⟨ad384, A384_0, c384_0, e384, hx384_0, hl384_0, hi384_0⟩ := at_L2 HR0_0.out x51_2 p384 q384
    cases e384
    replace hx384_0 := cel HB hx384_0
    have HR384_0 := Aside0.mk hi384_0
    have HC384_0 := Aside0.mk hl384_0
    clear hi384_0 hl384_0
    replace p384 := eq_true p384
    replace q384 := eq_true q384
    go_wp2_with (first | (go_at_call 42; (with_reducible refine (impl_earliestOf.calls _ _ (rd_L2 l0_0 x51_2) t385 _ ?side1 ?side2 A25.out).mono ?_); (case side1 => exact cdl (Kd.C_below HR384_0.out HB.out)); (case side2 => exact HC384_0.out); rintro e w' ⟨rfl, ⟨nd, rfl⟩⟩; (try first | exact ⟨rfl, _, dd2⟩ | exact ⟨rfl, _, dd3⟩); have hcz31_0 : wr.cell? ⟨gb379, 0, none⟩ = some (.slice (some ad384) l0_0.length c0_0) := (blk_cell BK379.out 0).trans rfl; have hfz31_0 := blk_frozen BK379.out 0; have p386 : 0 ≤ (x5_2 : Int) := oda; have q386 : x5_2 < (l0_0.length : Int) := oda; obtain ⟨ad386, A386_0, c386_0, e386, hx386_0, hl386_0, hi386_0⟩ := at_L2 HR0_0.out x5_2 p386 q386; obtain rfl : ad384 = ad386 := (by injection e386); replace hx386_0 := cel HB hx386_0; have HR386_0 := Aside0.mk hi386_0; have HC386_0 := Aside0.mk hl386_0; clear hi386_0 hl386_0; replace p386 := eq_true p386; replace q386 := eq_true q386) | (go_at_call 42; (with_reducible refine (impl_earliestOf.calls _ _ (rd_L2 l0_0 x5_2) t387 _ ?side1 ?side2 A28.out).mono ?_); (case side1 => repeat (first | exact (Kd.C_below HR386_0.out (bel1 HB GE379)) | (with_reducible refine Kd.C_alloc ?_ _) | (with_reducible refine Kd.C_drewN ?_ _) | (with_reducible refine Kd.C_drew ?_))); (case side2 => exact HC386_0.out); rintro e w' ⟨rfl, ⟨nd, rfl⟩⟩; (try first | exact ⟨rfl, _, dd2⟩ | exact ⟨rfl, _, dd3⟩)))
    repeat (go_quiet (first | (go_at_call 42; (with_reducible refine (impl_earliestOf.calls _ _ (rd_L2 l0_0 x51_2) t385 _ ?side1 ?side2 A25.out).mono ?_); (case side1 => exact cdl (Kd.C_below HR384_0.out HB.out)); (case side2 => exact HC384_0.out); rintro e w' ⟨rfl, ⟨nd, rfl⟩⟩; (try first | exact ⟨rfl, _, dd2⟩ | exact ⟨rfl, _, dd3⟩); have hcz31_0 : wr.cell? ⟨gb379, 0, none⟩ = some (.slice (some ad384) l0_0.length c0_0) := (blk_cell BK379.out 0).trans rfl; have hfz31_0 := blk_frozen BK379.out 0; have p386 : 0 ≤ (x5_2 : Int) := oda; have q386 : x5_2 < (l0_0.length : Int) := oda; obtain ⟨ad386, A386_0, c386_0, e386, hx386_0, hl386_0, hi386_0⟩ := at_L2 HR0_0.out x5_2 p386 q386; obtain rfl : ad384 = ad386 := (by injection e386); replace hx386_0 := cel HB hx386_0; have HR386_0 := Aside0.mk hi386_0; have HC386_0 := Aside0.mk hl386_0; clear hi386_0 hl386_0; replace p386 := eq_true p386; replace q386 := eq_true q386) | (go_at_call 42; (with_reducible refine (impl_earliestOf.calls _ _ (rd_L2 l0_0 x5_2) t387 _ ?side1 ?side2 A28.out).mono ?_); (case side1 => repeat (first | exact (Kd.C_below HR386_0.out (bel1 HB GE379)) | (with_reducible refine Kd.C_alloc ?_ _) | (with_reducible refine Kd.C_drewN ?_ _) | (with_reducible refine Kd.C_drew ?_))); (case side2 => exact HC386_0.out); rintro e w' ⟨rfl, ⟨nd, rfl⟩⟩; (try first | exact ⟨rfl, _, dd2⟩ | exact ⟨rfl, _, dd3⟩))); try go_wp2_with (first | (go_at_call 42; (with_reducible refine (impl_earliestOf.calls _ _ (rd_L2 l0_0 x51_2) t385 _ ?side1 ?side2 A25.out).mono ?_); (case side1 => exact cdl (Kd.C_below HR384_0.out HB.out)); (case side2 => exact HC384_0.out); rintro e w' ⟨rfl, ⟨nd, rfl⟩⟩; (try first | exact ⟨rfl, _, dd2⟩ | exact ⟨rfl, _, dd3⟩); have hcz31_0 : wr.cell? ⟨gb379, 0, none⟩ = some (.slice (some ad384) l0_0.length c0_0) := (blk_cell BK379.out 0).trans rfl; have hfz31_0 := blk_frozen BK379.out 0; have p386 : 0 ≤ (x5_2 : Int) := oda; have q386 : x5_2 < (l0_0.length : Int) := oda; obtain ⟨ad386, A386_0, c386_0, e386, hx386_0, hl386_0, hi386_0⟩ := at_L2 HR0_0.out x5_2 p386 q386; obtain rfl : ad384 = ad386 := (by injection e386); replace hx386_0 := cel HB hx386_0; have HR386_0 := Aside0.mk hi386_0; have HC386_0 := Aside0.mk hl386_0; clear hi386_0 hl386_0; replace p386 := eq_true p386; replace q386 := eq_true q386) | (go_at_call 42; (with_reducible refine (impl_earliestOf.calls _ _ (rd_L2 l0_0 x5_2) t387 _ ?side1 ?side2 A28.out).mono ?_); (case side1 => repeat (first | exact (Kd.C_below HR386_0.out (bel1 HB GE379)) | (with_reducible refine Kd.C_alloc ?_ _) | (with_reducible refine Kd.C_drewN ?_ _) | (with_reducible refine Kd.C_drew ?_))); (case side2 => exact HC386_0.out); rintro e w' ⟨rfl, ⟨nd, rfl⟩⟩; (try first | exact ⟨rfl, _, dd2⟩ | exact ⟨rfl, _, dd3⟩))))
    go_roundg k2
    case measure => have := HK1.out; have := HK2.out; omega
    case rel => exact ⟨(x5_2), (wrap64 (x51_2 + 1)), (by first | rfl | (simp; done) | (simp [*]; done)), (by first | rfl | (simp; done) | (simp [*]; done)), H', ⟨by have := HK1.out; have := HK2.out; omega⟩, ⟨bkl BK379⟩, ⟨bel1 HB GE379⟩⟩
  rw [if_pos c5] at H
  have c5b0 : decide (x14_1 < (l0_0.length : Int)) = true := decide_eq_true c5
  clear c5
  by_cases c6 : 0 ≤ x14_1
  rotate_left
  ·rw [if_neg c6] at H
   exact absurd H (by simp)
  rw [if_pos c6] at H
  have c6b0 : decide (0 ≤ x14_1) = true := decide_eq_true c6
  clear c6
  by_cases c7 : x14_1 < (l0_0.length : Int)
  rotate_left
  ·rw [if_neg c7] at H
   exact absurd H (by simp)
  rw [if_pos c7] at H
  have c7b0 : decide (x14_1 < (l0_0.length : Int)) = true := decide_eq_true c7
  clear c7
  replace H := Option.bind_eq_some_iff.mp H
  obtain ⟨t381, A80, H⟩ := H
  replace H : (if ((rd_L2 l0_0 x14_1).length : Int) < 4 then (if t381 > a1 then (if x5_1 < 0 then (impl_chooseStack.l0 k1 a1 x14_1 l0_0 (l0_0.length : Int) (wrap64 (x14_1 + 1)) l0_0) else (if 0 ≤ x5_1 then (if x5_1 < (l0_0.length : Int) then ((impl_earliestOf.f (rd_L2 l0_0 x5_1)).bind fun t383 => (if t381 < t383 then (impl_chooseStack.l0 k1 a1 x14_1 l0_0 (l0_0.length : Int) (wrap64 (x14_1 + 1)) l0_0) else (impl_chooseStack.l0 k1 a1 x5_1 l0_0 (l0_0.length : Int) (wrap64 (x14_1 + 1)) l0_0))) else (none)) else (none))) else (impl_chooseStack.l0 k1 a1 x5_1 l0_0 (l0_0.length : Int) (wrap64 (x14_1 + 1)) l0_0)) else (impl_chooseStack.l0 k1 a1 x5_1 l0_0 (l0_0.length : Int) (wrap64 (x14_1 + 1)) l0_0)) = some r := H
  have A8 := Aside0.mk A80
  clear A80
  by_cases c9 : ((rd_L2 l0_0 x14_1).length : Int) < 4
  rotate_left
  ·rw [if_neg c9] at H
   have c9b0 : decide (((rd_L2 l0_0 x14_1).length : Int) < 4) = false := decide_eq_false c9
   have c9b1 : decide ((rd_L2 l0_0 x14_1).length < 4) = false := decide_eq_false (by omega)
   clear c9
   have H' := Aside0.mk H
   clear H
   have p380 : 0 ≤ (x14_1 : Int) := oda
   have q380 : x14_1 < (l0_0.length : Int) := oda
   obtain ⟨ad380, A380_0, c380_0, e380, hx380_0, hl380_0, hi380_0⟩ := at_L2 HR0_0.out x14_1 p380 q380
   cases e380
   replace hx380_0 := cel HB hx380_0
   have HR380_0 := Aside0.mk hi380_0
   have HC380_0 := Aside0.mk hl380_0
   clear hi380_0 hl380_0
   replace p380 := eq_true p380
   replace q380 := eq_true q380
   go_wp2_with (first | (go_at_call 42; (with_reducible refine (impl_earliestOf.calls _ _ (rd_L2 l0_0 x14_1) t381 _ ?side1 ?side2 A8.out).mono ?_); (case side1 => exact cdl (Kd.C_below HR380_0.out HB.out)); (case side2 => exact HC380_0.out); rintro e w' ⟨rfl, ⟨nd, rfl⟩⟩; (try first | exact ⟨rfl, _, dd2⟩ | exact ⟨rfl, _, dd3⟩)))
   repeat (go_quiet (first | (go_at_call 42; (with_reducible refine (impl_earliestOf.calls _ _ (rd_L2 l0_0 x14_1) t381 _ ?side1 ?side2 A8.out).mono ?_); (case side1 => exact cdl (Kd.C_below HR380_0.out HB.out)); (case side2 => exact HC380_0.out); rintro e w' ⟨rfl, ⟨nd, rfl⟩⟩; (try first | exact ⟨rfl, _, dd2⟩ | exact ⟨rfl, _, dd3⟩))); try go_wp2_with (first | (go_at_call 42; (with_reducible refine (impl_earliestOf.calls _ _ (rd_L2 l0_0 x14_1) t381 _ ?side1 ?side2 A8.out).mono ?_); (case side1 => exact cdl (Kd.C_below HR380_0.out HB.out)); (case side2 => exact HC380_0.out); rintro e w' ⟨rfl, ⟨nd, rfl⟩⟩; (try first | exact ⟨rfl, _, dd2⟩ | exact ⟨rfl, _, dd3⟩))))
   go_roundg k1
   case measure => have := HK1.out; omega
   case rel => exact ⟨(x5_1), (wrap64 (x14_1 + 1)), (by first | rfl | (simp; done) | (simp [*]; done)), (by first | rfl | (simp; done) | (simp [*]; done)), H', ⟨by have := HK1.out; omega⟩, ⟨bkl BK379⟩, ⟨bel1 HB GE379⟩⟩
  rw [if_pos c9] at H
  have c9b0 : decide (((rd_L2 l0_0 x14_1).length : Int) < 4) = true := decide_eq_true c9
  have c9b1 : decide ((rd_L2 l0_0 x14_1).length < 4) = true := decide_eq_true (by omega)
  clear c9
  by_cases c10 : t381 > a1
  rotate_left
  ·rw [if_neg c10] at H
   have c10b0 : decide (a1 < t381) = false := decide_eq_false c10
   clear c10
   have H' := Aside0.mk H
   clear H
   have p380 : 0 ≤ (x14_1 : Int) := oda
   have q380 : x14_1 < (l0_0.length : Int) := oda
   obtain ⟨ad380, A380_0, c380_0, e380, hx380_0, hl380_0, hi380_0⟩ := at_L2 HR0_0.out x14_1 p380 q380
   cases e380
   replace hx380_0 := cel HB hx380_0
   have HR380_0 := Aside0.mk hi380_0
   have HC380_0 := Aside0.mk hl380_0
   clear hi380_0 hl380_0
   replace p380 := eq_true p380
   replace q380 := eq_true q380
   go_wp2_with (first | (go_at_call 42; (with_reducible refine (impl_earliestOf.calls _ _ (rd_L2 l0_0 x14_1) t381 _ ?side1 ?side2 A8.out).mono ?_); (case side1 => exact cdl (Kd.C_below HR380_0.out HB.out)); (case side2 => exact HC380_0.out); rintro e w' ⟨rfl, ⟨nd, rfl⟩⟩; (try first | exact ⟨rfl, _, dd2⟩ | exact ⟨rfl, _, dd3⟩)))
   repeat (go_quiet (first | (go_at_call 42; (with_reducible refine (impl_earliestOf.calls _ _ (rd_L2 l0_0 x14_1) t381 _ ?side1 ?side2 A8.out).mono ?_); (case side1 => exact cdl (Kd.C_below HR380_0.out HB.out)); (case side2 => exact HC380_0.out); rintro e w' ⟨rfl, ⟨nd, rfl⟩⟩; (try first | exact ⟨rfl, _, dd2⟩ | exact ⟨rfl, _, dd3⟩))); try go_wp2_with (first | (go_at_call 42; (with_reducible refine (impl_earliestOf.calls _ _ (rd_L2 l0_0 x14_1) t381 _ ?side1 ?side2 A8.out).mono ?_); (case side1 => exact cdl (Kd.C_below HR380_0.out HB.out)); (case side2 => exact HC380_0.out); rintro e w' ⟨rfl, ⟨nd, rfl⟩⟩; (try first | exact ⟨rfl, _, dd2⟩ | exact ⟨rfl, _, dd3⟩))))
   go_roundg k1
   case measure => have := HK1.out; omega
   case rel => exact ⟨(x5_1), (wrap64 (x14_1 + 1)), (by first | rfl | (simp; done) | (simp [*]; done)), (by first | rfl | (simp; done) | (simp [*]; done)), H', ⟨by have := HK1.out; omega⟩, ⟨bkl BK379⟩, ⟨bel1 HB GE379⟩⟩
  rw [if_pos c10] at H
  have c10b0 : decide (a1 < t381) = true := decide_eq_true c10
  clear c10
  by_cases c11 : x5_1 < 0
  ·rw [if_pos c11] at H
   have c11b0 : decide (x5_1 < 0) = true := decide_eq_true c11
   clear c11
   have H' := Aside0.mk H
   clear H
   have p380 : 0 ≤ (x14_1 : Int) := oda
   have q380 : x14_1 < (l0_0.length : Int) := oda
   obtain ⟨ad380, A380_0, c380_0, e380, hx380_0, hl380_0, hi380_0⟩ := at_L2 HR0_0.out x14_1 p380 q380
   cases e380
   replace hx380_0 := cel HB hx380_0
   have HR380_0 := Aside0.mk hi380_0
   have HC380_0 := Aside0.mk hl380_0
   clear hi380_0 hl380_0
   replace p380 := eq_true p380
   replace q380 := eq_true q380
   go_wp2_with (first | (go_at_call 42; (with_reducible refine (impl_earliestOf.calls _ _ (rd_L2 l0_0 x14_1) t381 _ ?side1 ?side2 A8.out).mono ?_); (case side1 => exact cdl (Kd.C_below HR380_0.out HB.out)); (case side2 => exact HC380_0.out); rintro e w' ⟨rfl, ⟨nd, rfl⟩⟩; (try first | exact ⟨rfl, _, dd2⟩ | exact ⟨rfl, _, dd3⟩)))
   repeat (go_quiet (first | (go_at_call 42; (with_reducible refine (impl_earliestOf.calls _ _ (rd_L2 l0_0 x14_1) t381 _ ?side1 ?side2 A8.out).mono ?_); (case side1 => exact cdl (Kd.C_below HR380_0.out HB.out)); (case side2 => exact HC380_0.out); rintro e w' ⟨rfl, ⟨nd, rfl⟩⟩; (try first | exact ⟨rfl, _, dd2⟩ | exact ⟨rfl, _, dd3⟩))); try go_wp2_with (first | (go_at_call 42; (with_reducible refine (impl_earliestOf.calls _ _ (rd_L2 l0_0 x14_1) t381 _ ?side1 ?side2 A8.out).mono ?_); (case side1 => exact cdl (Kd.C_below HR380_0.out HB.out)); (case side2 => exact HC380_0.out); rintro e w' ⟨rfl, ⟨nd, rfl⟩⟩; (try first | exact ⟨rfl, _, dd2⟩ | exact ⟨rfl, _, dd3⟩))))
   go_roundg k1
   case measure => have := HK1.out; omega
   case rel => exact ⟨(x14_1), (wrap64 (x14_1 + 1)), (by first | rfl | (simp; done) | (simp [*]; done)), (by first | rfl | (simp; done) | (simp [*]; done)), H', ⟨by have := HK1.out; omega⟩, ⟨bkl BK379⟩, ⟨bel1 HB GE379⟩⟩
  rw [if_neg c11] at H
  have c11b0 : decide (x5_1 < 0) = false := decide_eq_false c11
  clear c11
  by_cases c12 : 0 ≤ x5_1
  rotate_left
  ·rw [if_neg c12] at H
   exact absurd H (by simp)
  rw [if_pos c12] at H
  have c12b0 : decide (0 ≤ x5_1) = true := decide_eq_true c12
  clear c12
  by_cases c13 : x5_1 < (l0_0.length : Int)
  rotate_left
  ·rw [if_neg c13] at H
   exact absurd H (by simp)
  rw [if_pos c13] at H
  have c13b0 : decide (x5_1 < (l0_0.length : Int)) = true := decide_eq_true c13
  clear c13
  replace H := Option.bind_eq_some_iff.mp H
  obtain ⟨t383, A140, H⟩ := H
  replace H : (if t381 < t383 then (impl_chooseStack.l0 k1 a1 x14_1 l0_0 (l0_0.length : Int) (wrap64 (x14_1 + 1)) l0_0) else (impl_chooseStack.l0 k1 a1 x5_1 l0_0 (l0_0.length : Int) (wrap64 (x14_1 + 1)) l0_0)) = some r := H
  have A14 := Aside0.mk A140
  clear A140
  by_cases c15 : t381 < t383
  ·rw [if_pos c15] at H
   have c15b0 : decide (t381 < t383) = true := decide_eq_true c15
   clear c15
   have H' := Aside0.mk H
   clear H
   have p380 : 0 ≤ (x14_1 : Int) := oda
   have q380 : x14_1 < (l0_0.length : Int) := oda
   obtain ⟨ad380, A380_0, c380_0, e380, hx380_0, hl380_0, hi380_0⟩ := at_L2 HR0_0.out x14_1 p380 q380
   cases e380
   replace hx380_0 := cel HB hx380_0
   have HR380_0 := Aside0.mk hi380_0
   have HC380_0 := Aside0.mk hl380_0
   clear hi380_0 hl380_0
   replace p380 := eq_true p380
   replace q380 := eq_true q380
   go_wp2_with (first | (go_at_call 42; (with_reducible refine (impl_earliestOf.calls _ _ (rd_L2 l0_0 x14_1) t381 _ ?side1 ?side2 A8.out).mono ?_); (case side1 => exact cdl (Kd.C_below HR380_0.out HB.out)); (case side2 => exact HC380_0.out); rintro e w' ⟨rfl, ⟨nd, rfl⟩⟩; (try first | exact ⟨rfl, _, dd2⟩ | exact ⟨rfl, _, dd3⟩); have hcz16_0 : wr.cell? ⟨gb379, 0, none⟩ = some (.slice (some ad380) l0_0.length c0_0) := (blk_cell BK379.out 0).trans rfl; have hfz16_0 := blk_frozen BK379.out 0; have p382 : 0 ≤ (x5_1 : Int) := oda; have q382 : x5_1 < (l0_0.length : Int) := oda; obtain ⟨ad382, A382_0, c382_0, e382, hx382_0, hl382_0, hi382_0⟩ := at_L2 HR0_0.out x5_1 p382 q382; obtain rfl : ad380 = ad382 := (by injection e382); replace hx382_0 := cel HB hx382_0; have HR382_0 := Aside0.mk hi382_0; have HC382_0 := Aside0.mk hl382_0; clear hi382_0 hl382_0; replace p382 := eq_true p382; replace q382 := eq_true q382) | (go_at_call 42; (with_reducible refine (impl_earliestOf.calls _ _ (rd_L2 l0_0 x5_1) t383 _ ?side1 ?side2 A14.out).mono ?_); (case side1 => repeat (first | exact (Kd.C_below HR382_0.out (bel1 HB GE379)) | (with_reducible refine Kd.C_alloc ?_ _) | (with_reducible refine Kd.C_drewN ?_ _) | (with_reducible refine Kd.C_drew ?_))); (case side2 => exact HC382_0.out); rintro e w' ⟨rfl, ⟨nd, rfl⟩⟩; (try first | exact ⟨rfl, _, dd2⟩ | exact ⟨rfl, _, dd3⟩)))
   repeat (go_quiet (first | (go_at_call 42; (with_reducible refine (impl_earliestOf.calls _ _ (rd_L2 l0_0 x14_1) t381 _ ?side1 ?side2 A8.out).mono ?_); (case side1 => exact cdl (Kd.C_below HR380_0.out HB.out)); (case side2 => exact HC380_0.out); rintro e w' ⟨rfl, ⟨nd, rfl⟩⟩; (try first | exact ⟨rfl, _, dd2⟩ | exact ⟨rfl, _, dd3⟩); have hcz16_0 : wr.cell? ⟨gb379, 0, none⟩ = some (.slice (some ad380) l0_0.length c0_0) := (blk_cell BK379.out 0).trans rfl; have hfz16_0 := blk_frozen BK379.out 0; have p382 : 0 ≤ (x5_1 : Int) := oda; have q382 : x5_1 < (l0_0.length : Int) := oda; obtain ⟨ad382, A382_0, c382_0, e382, hx382_0, hl382_0, hi382_0⟩ := at_L2 HR0_0.out x5_1 p382 q382; obtain rfl : ad380 = ad382 := (by injection e382); replace hx382_0 := cel HB hx382_0; have HR382_0 := Aside0.mk hi382_0; have HC382_0 := Aside0.mk hl382_0; clear hi382_0 hl382_0; replace p382 := eq_true p382; replace q382 := eq_true q382) | (go_at_call 42; (with_reducible refine (impl_earliestOf.calls _ _ (rd_L2 l0_0 x5_1) t383 _ ?side1 ?side2 A14.out).mono ?_); (case side1 => repeat (first | exact (Kd.C_below HR382_0.out (bel1 HB GE379)) | (with_reducible refine Kd.C_alloc ?_ _) | (with_reducible refine Kd.C_drewN ?_ _) | (with_reducible refine Kd.C_drew ?_))); (case side2 => exact HC382_0.out); rintro e w' ⟨rfl, ⟨nd, rfl⟩⟩; (try first | exact ⟨rfl, _, dd2⟩ | exact ⟨rfl, _, dd3⟩))); try go_wp2_with (first | (go_at_call 42; (with_reducible refine (impl_earliestOf.calls _ _ (rd_L2 l0_0 x14_1) t381 _ ?side1 ?side2 A8.out).mono ?_); (case side1 => exact cdl (Kd.C_below HR380_0.out HB.out)); (case side2 => exact HC380_0.out); rintro e w' ⟨rfl, ⟨nd, rfl⟩⟩; (try first | exact ⟨rfl, _, dd2⟩ | exact ⟨rfl, _, dd3⟩); have hcz16_0 : wr.cell? ⟨gb379, 0, none⟩ = some (.slice (some ad380) l0_0.length c0_0) := (blk_cell BK379.out 0).trans rfl; have hfz16_0 := blk_frozen BK379.out 0; have p382 : 0 ≤ (x5_1 : Int) := oda; have q382 : x5_1 < (l0_0.length : Int) := oda; obtain ⟨ad382, A382_0, c382_0, e382, hx382_0, hl382_0, hi382_0⟩ := at_L2 HR0_0.out x5_1 p382 q382; obtain rfl : ad380 = ad382 := (by injection e382); replace hx382_0 := cel HB hx382_0; have HR382_0 := Aside0.mk hi382_0; have HC382_0 := Aside0.mk hl382_0; clear hi382_0 hl382_0; replace p382 := eq_true p382; replace q382 := eq_true q382) | (go_at_call 42; (with_reducible refine (impl_earliestOf.calls _ _ (rd_L2 l0_0 x5_1) t383 _ ?side1 ?side2 A14.out).mono ?_); (case side1 => repeat (first | exact (Kd.C_below HR382_0.out (bel1 HB GE379)) | (with_reducible refine Kd.C_alloc ?_ _) | (with_reducible refine Kd.C_drewN ?_ _) | (with_reducible refine Kd.C_drew ?_))); (case side2 => exact HC382_0.out); rintro e w' ⟨rfl, ⟨nd, rfl⟩⟩; (try first | exact ⟨rfl, _, dd2⟩ | exact ⟨rfl, _, dd3⟩))))
   go_roundg k1
   case measure => have := HK1.out; omega
   case rel => exact ⟨(x14_1), (wrap64 (x14_1 + 1)), (by first | rfl | (simp; done) | (simp [*]; done)), (by first | rfl | (simp; done) | (simp [*]; done)), H', ⟨by have := HK1.out; omega⟩, ⟨bkl BK379⟩, ⟨bel1 HB GE379⟩⟩
  rw [if_neg c15] at H
  have c15b0 : decide (t381 < t383) = false := decide_eq_false c15
  clear c15
  have H' := Aside0.mk H
  clear H
  have p380 : 0 ≤ (x14_1 : Int) := oda
  have q380 : x14_1 < (l0_0.length : Int) := oda
  obtain ⟨ad380, A380_0, c380_0, e380, hx380_0, hl380_0, hi380_0⟩ := at_L2 HR0_0.out x14_1 p380 q380
  cases e380
  replace hx380_0 := cel HB hx380_0
  have HR380_0 := Aside0.mk hi380_0
  have HC380_0 := Aside0.mk hl380_0
  clear hi380_0 hl380_0
  replace p380 := eq_true p380
  replace q380 := eq_true q380
  go_wp2_with (first | (go_at_call 42; (with_reducible refine (impl_earliestOf.calls _ _ (rd_L2 l0_0 x14_1) t381 _ ?side1 ?side2 A8.out).mono ?_); (case side1 => exact cdl (Kd.C_below HR380_0.out HB.out)); (case side2 => exact HC380_0.out); rintro e w' ⟨rfl, ⟨nd, rfl⟩⟩; (try first | exact ⟨rfl, _, dd2⟩ | exact ⟨rfl, _, dd3⟩); have hcz17_0 : wr.cell? ⟨gb379, 0, none⟩ = some (.slice (some ad380) l0_0.length c0_0) := (blk_cell BK379.out 0).trans rfl; have hfz17_0 := blk_frozen BK379.out 0; have p382 : 0 ≤ (x5_1 : Int) := oda; have q382 : x5_1 < (l0_0.length : Int) := oda; obtain ⟨ad382, A382_0, c382_0, e382, hx382_0, hl382_0, hi382_0⟩ := at_L2 HR0_0.out x5_1 p382 q382; obtain rfl : ad380 = ad382 := (by injection e382); replace hx382_0 := cel HB hx382_0; have HR382_0 := Aside0.mk hi382_0; have HC382_0 := Aside0.mk hl382_0; clear hi382_0 hl382_0; replace p382 := eq_true p382; replace q382 := eq_true q382) | (go_at_call 42; (with_reducible refine (impl_earliestOf.calls _ _ (rd_L2 l0_0 x5_1) t383 _ ?side1 ?side2 A14.out).mono ?_); (case side1 => repeat (first | exact (Kd.C_below HR382_0.out (bel1 HB GE379)) | (with_reducible refine Kd.C_alloc ?_ _) | (with_reducible refine Kd.C_drewN ?_ _) | (with_reducible refine Kd.C_drew ?_))); (case side2 => exact HC382_0.out); rintro e w' ⟨rfl, ⟨nd, rfl⟩⟩; (try first | exact ⟨rfl, _, dd2⟩ | exact ⟨rfl, _, dd3⟩)))
  repeat (go_quiet (first | (go_at_call 42; (with_reducible refine (impl_earliestOf.calls _ _ (rd_L2 l0_0 x14_1) t381 _ ?side1 ?side2 A8.out).mono ?_); (case side1 => exact cdl (Kd.C_below HR380_0.out HB.out)); (case side2 => exact HC380_0.out); rintro e w' ⟨rfl, ⟨nd, rfl⟩⟩; (try first | exact ⟨rfl, _, dd2⟩ | exact ⟨rfl, _, dd3⟩); have hcz17_0 : wr.cell? ⟨gb379, 0, none⟩ = some (.slice (some ad380) l0_0.length c0_0) := (blk_cell BK379.out 0).trans rfl; have hfz17_0 := blk_frozen BK379.out 0; have p382 : 0 ≤ (x5_1 : Int) := oda; have q382 : x5_1 < (l0_0.length : Int) := oda; obtain ⟨ad382, A382_0, c382_0, e382, hx382_0, hl382_0, hi382_0⟩ := at_L2 HR0_0.out x5_1 p382 q382; obtain rfl : ad380 = ad382 := (by injection e382); replace hx382_0 := cel HB hx382_0; have HR382_0 := Aside0.mk hi382_0; have HC382_0 := Aside0.mk hl382_0; clear hi382_0 hl382_0; replace p382 := eq_true p382; replace q382 := eq_true q382) | (go_at_call 42; (with_reducible refine (impl_earliestOf.calls _ _ (rd_L2 l0_0 x5_1) t383 _ ?side1 ?side2 A14.out).mono ?_); (case side1 => repeat (first | exact (Kd.C_below HR382_0.out (bel1 HB GE379)) | (with_reducible refine Kd.C_alloc ?_ _) | (with_reducible refine Kd.C_drewN ?_ _) | (with_reducible refine Kd.C_drew ?_))); (case side2 => exact HC382_0.out); rintro e w' ⟨rfl, ⟨nd, rfl⟩⟩; (try first | exact ⟨rfl, _, dd2⟩ | exact ⟨rfl, _, dd3⟩))); try go_wp2_with (first | (go_at_call 42; (with_reducible refine (impl_earliestOf.calls _ _ (rd_L2 l0_0 x14_1) t381 _ ?side1 ?side2 A8.out).mono ?_); (case side1 => exact cdl (Kd.C_below HR380_0.out HB.out)); (case side2 => exact HC380_0.out); rintro e w' ⟨rfl, ⟨nd, rfl⟩⟩; (try first | exact ⟨rfl, _, dd2⟩ | exact ⟨rfl, _, dd3⟩); have hcz17_0 : wr.cell? ⟨gb379, 0, none⟩ = some (.slice (some ad380) l0_0.length c0_0) := (blk_cell BK379.out 0).trans rfl; have hfz17_0 := blk_frozen BK379.out 0; have p382 : 0 ≤ (x5_1 : Int) := oda; have q382 : x5_1 < (l0_0.length : Int) := oda; obtain ⟨ad382, A382_0, c382_0, e382, hx382_0, hl382_0, hi382_0⟩ := at_L2 HR0_0.out x5_1 p382 q382; obtain rfl : ad380 = ad382 := (by injection e382); replace hx382_0 := cel HB hx382_0; have HR382_0 := Aside0.mk hi382_0; have HC382_0 := Aside0.mk hl382_0; clear hi382_0 hl382_0; replace p382 := eq_true p382; replace q382 := eq_true q382) | (go_at_call 42; (with_reducible refine (impl_earliestOf.calls _ _ (rd_L2 l0_0 x5_1) t383 _ ?side1 ?side2 A14.out).mono ?_); (case side1 => repeat (first | exact (Kd.C_below HR382_0.out (bel1 HB GE379)) | (with_reducible refine Kd.C_alloc ?_ _) | (with_reducible refine Kd.C_drewN ?_ _) | (with_reducible refine Kd.C_drew ?_))); (case side2 => exact HC382_0.out); rintro e w' ⟨rfl, ⟨nd, rfl⟩⟩; (try first | exact ⟨rfl, _, dd2⟩ | exact ⟨rfl, _, dd3⟩))))
  go_roundg k1
  case measure => have := HK1.out; omega
  case rel => exact ⟨(x5_1), (wrap64 (x14_1 + 1)), (by first | rfl | (simp; done) | (simp [*]; done)), (by first | rfl | (simp; done) | (simp [*]; done)), H', ⟨by have := HK1.out; omega⟩, ⟨bkl BK379⟩, ⟨bel1 HB GE379⟩⟩
/-! ### impl_ChooseStack: function 16 -/
def impl_ChooseStack.f (k : Nat) (l0_0 : List (List Int)) (a1 : Int) : Option (Int × Bool) := (impl_areArrivals.f k l0_0 (([a1] : List Int))).bind fun t392 => (if t392 = true then ((impl_chooseStack.f k l0_0 a1).bind fun t393 => (some (mx 0 t393, decide (t393 ≥ 0)))) else (some (0, false)))
theorem impl_ChooseStack.mono : ∀ a0 a1 k, LeO (impl_ChooseStack.f k a0 a1) (impl_ChooseStack.f (k + 1) a0 a1) := by
 intro a0 a1 k
 unfold impl_ChooseStack.f
 repeat' first
   | (with_reducible exact impl_areArrivals.mono _ _ _)
   | (with_reducible exact impl_chooseStack.mono _ _ _)
   | (with_reducible exact LeO.refl _)
   | (with_reducible exact LeO.none _)
   | (with_reducible refine LeO.ite ?_ ?_)
   | (with_reducible refine LeO.bind ?_ (fun _ => ?_))
   | exact impl_areArrivals.mono _ _ _
   | exact impl_chooseStack.mono _ _ _
   | exact LeO.none _
   | refine LeO.ite ?_ ?_
   | refine LeO.bind ?_ (fun _ => ?_)
set_option maxHeartbeats 8000000 in
set_option maxRecDepth 100000 in
theorem impl_ChooseStack.calls (k : Nat) (A0_0 : Option Addr) (c0_0 : Nat) (l0_0 : List (List Int)) (a1 : Int) (r1 : Int) (r2 : Bool) (w : World) (hr0_0 : Kd.C (Kd.slice 3 (Kd.int .i64)) w A0_0 l0_0.length l0_0) (hc0_0 : l0_0.length ≤ c0_0) (h : impl_ChooseStack.f k l0_0 a1 = some (r1, r2)) :
  Calls Try.prog 16 #[.agg #[.slice A0_0 l0_0.length c0_0], .int .i64 a1] w fun e w' => e = .returned (.tuple #[.int .i64 r1, .bool r2]) ∧ Below w.heap.size w w' := by
 have hu26 := Try.underlying26
 have HR0_0 := Aside0.mk hr0_0
 have HC0_0 := Aside0.mk hc0_0
 clear hr0_0 hc0_0
 have HB := Aside0.mk (Below.refl w.heap.size w)
 have H : ((impl_areArrivals.f k l0_0 (([a1] : List Int))).bind fun t392 => (if t392 = true then ((impl_chooseStack.f k l0_0 a1).bind fun t393 => (some (mx 0 t393, decide (t393 ≥ 0)))) else (some (0, false)))) = some (r1, r2) := h
 clear h
 obtain ⟨y389, hy389⟩ : ∃ y_ : List Int, y_ = (([a1] : List Int)) := ⟨_, rfl⟩
 replace H : ((impl_areArrivals.f k l0_0 y389).bind fun t392 => (if t392 = true then ((impl_chooseStack.f k l0_0 a1).bind fun t393 => (some (mx 0 t393, decide (t393 ≥ 0)))) else (some (0, false)))) = some (r1, r2) := by first | (rw [hy389]; with_reducible exact H) | (have H2_ := (Option.bind_some _ _).symm.trans H; rw [hy389]; with_reducible exact H2_) | (have H2_ := (Option.bind_some _ _).symm.trans H; with_reducible exact H2_) | with_reducible exact H | (rw [hy389]; exact H) | exact H
 have Ny389 := Aside0.mk hy389
 clear hy389
 replace H := Option.bind_eq_some_iff.mp H
 obtain ⟨t392, A30, H⟩ := H
 replace H : (if t392 = true then ((impl_chooseStack.f k l0_0 a1).bind fun t393 => (some (mx 0 t393, decide (t393 ≥ 0)))) else (some (0, false))) = some (r1, r2) := H
 have A3 := Aside0.mk A30
 clear A30
 by_cases c4 : t392 = true
 rotate_left
 ·replace c4 := Bool.eq_false_iff.mpr c4
  subst c4
  have H1 : (some (0, false)) = some (r1, r2) := by rw [if_neg (show ¬ (false = true) by decide)] at H; exact H
  clear H
  have H := H1
  clear H1
  simp only [Option.some.injEq, Prod.mk.injEq] at H
  obtain ⟨rfl, rfl⟩ := H
  go_enter Try.func16, Try.ntmps16
  go_wp2_with (first | ((with_reducible refine gate_dst (N := 2) rfl ?_); refine box_event ?hg (N := 2) ?hd (cs := #[.slice A0_0 l0_0.length c0_0]) (t := 26) ?hr ?_; (case hd => rfl); (case hg => rfl); (case hr => first | (go_simp; done) | (go_simp; rfl)); intro gb388 hg w15 hbox hb; have n0_ := Aside0.mk (below_step (bel HB) hb); have n1_ := Aside0.mk (hbox); have n2_ := Aside0.mk ((by rw [hg]; exact (below_size (bel HB)) : w.heap.size ≤ gb388)); have n3_ := Aside0.mk ((by rw [hg]; exact (below_size (bel HB)) : w.heap.size ≤ gb388)); clear HB; have HB := n0_; have BK388 := n1_; have GW388 := n2_; have GE388 := n3_; clear n0_ n1_ n2_ n3_; clear hb hbox hg; have hcz16_0 : w15.cell? ⟨gb388, 0, none⟩ = some (.slice A0_0 l0_0.length c0_0) := (blk_cell BK388.out 0).trans rfl; have hfz16_0 := blk_frozen BK388.out 0) | ((with_reducible refine gate_dst (N := 9) rfl ?_); refine Kd.R_lit (Kd.int .i64) _ 3 ?hg (N := 9) ?hd (xs := ([a1] : List Int)) (inner := [.int .i64 a1]) (ok := fun _ => True) (okp := fun _ => True) ?hr ?hp (fun _ hk => hk) trivial (Below.refl _ _) (Nat.le_refl _) (by simp) ?_; (case hd => rfl); (case hg => rfl); (case hr => first | (go_simp; done) | (go_simp; rfl)); (case hp => exact (Reps.one (show Kd.M (Kd.int .i64) _ _ _ a1 [.int .i64 a1] from rfl) (Reps.none _ _))); intro v390 w17 ho18 hb hg_ hnew_; clear hg_ hnew_; (first | rw [← Ny389.out] at ho18 | (simp only [Int.reduceToNat] at ho18; rw [← Ny389.out] at ho18)); have n0_ := Aside0.mk (Kd.R_lower ho18 (below_size (bel1 HB GE388))); have n1_ := Aside0.mk (blk_below (g := gb388) (o := .cells #[.slice A0_0 l0_0.length c0_0] 26 (0, 0)) (bkl BK388) hb); have n2_ := Aside0.mk (below_step (bel1 HB GE388) hb); clear BK388; clear HB; have HO391 := n0_; have BK388 := n1_; have HB := n2_; clear n0_ n1_ n2_; clear hb ho18; obtain ⟨Ao19, co19, eo19⟩ := Kd.R_slice HO391.out; subst eo19) | ((with_reducible refine gate_callee (f := 37) rfl ?_); refine goesL_ (some 10) rfl rfl Try.func37 (by kernel_rfl) rfl #[.agg #[.slice A0_0 l0_0.length c0_0], .slice Ao19 y389.length co19] rfl gmp ?_; (with_reducible refine (impl_areArrivals.calls k _ _ l0_0 _ _ y389 false _ ?side1 ?side2 ?side3 ?side4 A3.out).mono ?_); (case side1 => exact cdl (Kd.C_below HR0_0.out HB.out)); (case side2 => exact HC0_0.out); (case side3 => exact cdl (Kd.R_reads' HO391.out).2.2); (case side4 => exact (Kd.R_reads' HO391.out).2.1); rintro e w20 ⟨rfl, hb⟩; refine ⟨_, rfl, ?_⟩; have n0_ := Aside0.mk (Kd.R_below (rdl HO391) hb); have n1_ := Aside0.mk (blk_below (g := gb388) (o := .cells #[.slice A0_0 l0_0.length c0_0] 26 (0, 0)) (bkl BK388) hb); have n2_ := Aside0.mk (below_step (bel1 HB GE388) hb); clear HO391; clear BK388; clear HB; have HO391 := n0_; have BK388 := n1_; have HB := n2_; clear n0_ n1_ n2_; (try clear hb); (try clear hb2); (try clear hk); (try clear hi)))
  go_ret2
  exact ⟨by first | rfl | (simp [errW_none, errW_some] <;> rfl) | (simp [*, errW_none, errW_some] <;> rfl), bel1 HB GE388⟩
 subst c4
 have H1 : ((impl_chooseStack.f k l0_0 a1).bind fun t393 => (some (mx 0 t393, decide (t393 ≥ 0)))) = some (r1, r2) := by rw [if_pos rfl] at H; exact H
 clear H
 have H := H1
 clear H1
 replace H := Option.bind_eq_some_iff.mp H
 obtain ⟨t393, A50, H⟩ := H
 replace H : (some (mx 0 t393, decide (t393 ≥ 0))) = some (r1, r2) := H
 have A5 := Aside0.mk A50
 clear A50
 obtain ⟨ji6, hji6⟩ : ∃ j_ : Int, (mx 0 t393) = j_ := ⟨_, rfl⟩
 replace H : (some (ji6, decide (t393 ≥ 0))) = some (r1, r2) := by first | (rw [hji6] at H; exact H) | (simp only [hji6] at H ⊢; exact H)
 (try rw [hji6] at A3)
 (try rw [hji6] at A5)
 (try (have hji6l : 0 ≤ ji6 := by (rw [← hji6]; unfold mx; (repeat' split) <;> omega)))
 (try (have hji6m : 0 ≤ ji6 := by omega))
 have hji6_ : (if 0 < t393 then t393 else 0) = ji6 := hji6
 simp only [Option.some.injEq, Prod.mk.injEq] at H
 obtain ⟨rfl, rfl⟩ := H
 go_enter Try.func16, Try.ntmps16
 go_wp2_with (first | ((with_reducible refine gate_dst (N := 2) rfl ?_); refine box_event ?hg (N := 2) ?hd (cs := #[.slice A0_0 l0_0.length c0_0]) (t := 26) ?hr ?_; (case hd => rfl); (case hg => rfl); (case hr => first | (go_simp; done) | (go_simp; rfl)); intro gb388 hg w7 hbox hb; have n0_ := Aside0.mk (below_step (bel HB) hb); have n1_ := Aside0.mk (hbox); have n2_ := Aside0.mk ((by rw [hg]; exact (below_size (bel HB)) : w.heap.size ≤ gb388)); have n3_ := Aside0.mk ((by rw [hg]; exact (below_size (bel HB)) : w.heap.size ≤ gb388)); clear HB; have HB := n0_; have BK388 := n1_; have GW388 := n2_; have GE388 := n3_; clear n0_ n1_ n2_ n3_; clear hb hbox hg; have hcz8_0 : w7.cell? ⟨gb388, 0, none⟩ = some (.slice A0_0 l0_0.length c0_0) := (blk_cell BK388.out 0).trans rfl; have hfz8_0 := blk_frozen BK388.out 0) | ((with_reducible refine gate_dst (N := 9) rfl ?_); refine Kd.R_lit (Kd.int .i64) _ 3 ?hg (N := 9) ?hd (xs := ([a1] : List Int)) (inner := [.int .i64 a1]) (ok := fun _ => True) (okp := fun _ => True) ?hr ?hp (fun _ hk => hk) trivial (Below.refl _ _) (Nat.le_refl _) (by simp) ?_; (case hd => rfl); (case hg => rfl); (case hr => first | (go_simp; done) | (go_simp; rfl)); (case hp => exact (Reps.one (show Kd.M (Kd.int .i64) _ _ _ a1 [.int .i64 a1] from rfl) (Reps.none _ _))); intro v390 w9 ho10 hb hg_ hnew_; clear hg_ hnew_; (first | rw [← Ny389.out] at ho10 | (simp only [Int.reduceToNat] at ho10; rw [← Ny389.out] at ho10)); have n0_ := Aside0.mk (Kd.R_lower ho10 (below_size (bel1 HB GE388))); have n1_ := Aside0.mk (blk_below (g := gb388) (o := .cells #[.slice A0_0 l0_0.length c0_0] 26 (0, 0)) (bkl BK388) hb); have n2_ := Aside0.mk (below_step (bel1 HB GE388) hb); clear BK388; clear HB; have HO391 := n0_; have BK388 := n1_; have HB := n2_; clear n0_ n1_ n2_; clear hb ho10; obtain ⟨Ao11, co11, eo11⟩ := Kd.R_slice HO391.out; subst eo11) | ((with_reducible refine gate_callee (f := 37) rfl ?_); refine goesL_ (some 10) rfl rfl Try.func37 (by kernel_rfl) rfl #[.agg #[.slice A0_0 l0_0.length c0_0], .slice Ao11 y389.length co11] rfl gmp ?_; (with_reducible refine (impl_areArrivals.calls k _ _ l0_0 _ _ y389 true _ ?side1 ?side2 ?side3 ?side4 A3.out).mono ?_); (case side1 => exact cdl (Kd.C_below HR0_0.out HB.out)); (case side2 => exact HC0_0.out); (case side3 => exact cdl (Kd.R_reads' HO391.out).2.2); (case side4 => exact (Kd.R_reads' HO391.out).2.1); rintro e w12 ⟨rfl, hb⟩; refine ⟨_, rfl, ?_⟩; have n0_ := Aside0.mk (Kd.R_below (rdl HO391) hb); have n1_ := Aside0.mk (blk_below (g := gb388) (o := .cells #[.slice A0_0 l0_0.length c0_0] 26 (0, 0)) (bkl BK388) hb); have n2_ := Aside0.mk (below_step (bel1 HB GE388) hb); clear HO391; clear BK388; clear HB; have HO391 := n0_; have BK388 := n1_; have HB := n2_; clear n0_ n1_ n2_; (try clear hb); (try clear hb2); (try clear hk); (try clear hi); have hcz13_0 : w12.cell? ⟨gb388, 0, none⟩ = some (.slice A0_0 l0_0.length c0_0) := (blk_cell BK388.out 0).trans rfl; have hfz13_0 := blk_frozen BK388.out 0) | ((with_reducible refine gate_callee (f := 38) rfl ?_); refine goesL_ (some 14) rfl rfl Try.func38 (by kernel_rfl) rfl #[.agg #[.slice A0_0 l0_0.length c0_0], .int .i64 a1] rfl gmp ?_; (with_reducible refine (impl_chooseStack.calls k _ _ l0_0 a1 t393 _ ?side1 ?side2 A5.out).mono ?_); (case side1 => exact cdl (Kd.C_below HR0_0.out HB.out)); (case side2 => exact HC0_0.out); rintro e w14 ⟨rfl, hb⟩; refine ⟨_, rfl, ?_⟩; have n0_ := Aside0.mk (Kd.R_below (rdl HO391) hb); have n1_ := Aside0.mk (blk_below (g := gb388) (o := .cells #[.slice A0_0 l0_0.length c0_0] 26 (0, 0)) (bkl BK388) hb); have n2_ := Aside0.mk (below_step (bel1 HB GE388) hb); clear HO391; clear BK388; clear HB; have HO391 := n0_; have BK388 := n1_; have HB := n2_; clear n0_ n1_ n2_; (try clear hb); (try clear hb2); (try clear hk); (try clear hi)))
 go_ret2
 exact ⟨by first | rfl | (simp [errW_none, errW_some] <;> rfl) | (simp only [← hji6]; first | rfl | (simp [errW_none, errW_some] <;> rfl)) | (simp [*, errW_none, errW_some] <;> rfl), bel1 HB GE388⟩
end Go.Proofs.Ytmggkimmnekhcaa.P
