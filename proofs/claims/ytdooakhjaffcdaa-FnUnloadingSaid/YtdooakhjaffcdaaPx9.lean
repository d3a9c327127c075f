-- Written by a program of this session over the translation (a variant of the printer, see wip/gen); Lean checks it.
import Derived.Test.YtdooakhjaffcdaaPx0
import Derived.Test.YtdooakhjaffcdaaPx8
namespace Go.Proofs.Ytdooakhjaffcdaa.P
open Go.RowKit Go.Proofs.YtdooakhjaffcdaaW.PrintWords Go.Proofs.YtdooakhjaffcdaaW.PrintLast Go.Proofs.YtdooakhjaffcdaaW.PrintMore
attribute [local go_sem] Go.Proofs.Ytdooakhjaffcdaa.V.isSome_setCell max2_int min2_int max_two min_two max_three min_three max_four min_four
set_option linter.unusedVariables false
set_option linter.unusedSimpArgs false
/-! ### slices_Index_int_int: function 30 -/
def slices_Index_int_int.l0 : Nat → List Int → Int → Int → Int → Option (Int)
 | 0, _, _, _, _ => none
 | k + 1, x0, x1, x7, x8 => if x8 < x7 then (if 0 ≤ x8 then (if x8 < (x0.length : Int) then (if x1 = (rd x0 x8) then (some x8) else (slices_Index_int_int.l0 k x0 x1 x7 (wrap64 (x8 + 1)))) else (none)) else (none)) else (some (-1))
def slices_Index_int_int.f (k : Nat) (l0 : List Int) (a1 : Int) : Option (Int) := slices_Index_int_int.l0 k l0 a1 (l0.length : Int) 0
theorem slices_Index_int_int.mono_l : ∀ k, (∀ y0 y1 y2 y3, LeO (slices_Index_int_int.l0 k y0 y1 y2 y3) (slices_Index_int_int.l0 (k + 1) y0 y1 y2 y3))
 | 0 => fun _ _ _ _ r h => by simp [slices_Index_int_int.l0] at h
 | k + 1 => by
  have ih0 := slices_Index_int_int.mono_l k
  ·intro y0 y1 y2 y3
   unfold slices_Index_int_int.l0
   repeat' first
   | (with_reducible exact ih0 _ _ _ _)
   | (with_reducible exact LeO.refl _)
   | (with_reducible exact LeO.none _)
   | (with_reducible refine LeO.ite ?_ ?_)
   | (with_reducible refine LeO.bind ?_ (fun _ => ?_))
   | exact ih0 _ _ _ _
   | exact LeO.none _
   | refine LeO.ite ?_ ?_
   | refine LeO.bind ?_ (fun _ => ?_)
theorem slices_Index_int_int.mono : ∀ a0 a1 k, LeO (slices_Index_int_int.f k a0 a1) (slices_Index_int_int.f (k + 1) a0 a1) := by
 intro a0 a1 k
 have ih0 := slices_Index_int_int.mono_l k
 unfold slices_Index_int_int.f
 repeat' first
   | (with_reducible exact ih0 _ _ _ _)
   | (with_reducible exact LeO.refl _)
   | (with_reducible exact LeO.none _)
   | (with_reducible refine LeO.ite ?_ ?_)
   | (with_reducible refine LeO.bind ?_ (fun _ => ?_))
   | exact ih0 _ _ _ _
   | exact LeO.none _
   | refine LeO.ite ?_ ?_
   | refine LeO.bind ?_ (fun _ => ?_)
set_option maxHeartbeats 8000000 in
set_option maxRecDepth 100000 in
theorem slices_Index_int_int.calls (k : Nat) (A0 : Option Addr) (c0 : Nat) (l0 : List Int) (a1 : Int) (r : Int) (w : World) (hr0 : Kd.C (Kd.int .i64) w A0 l0.length l0) (hc0 : l0.length ≤ c0) (h : slices_Index_int_int.f k l0 a1 = some r) :
  Calls Try.prog 30 #[.slice A0 l0.length c0, .int .i64 a1] w fun e w' => e = .returned (.int .i64 r) ∧ Drawn0 w w' := by
 have HR0 := Aside0.mk hr0
 have HC0 := Aside0.mk hc0
 clear hr0 hc0
 have H : (slices_Index_int_int.l0 k l0 a1 (l0.length : Int) 0) = some r := h
 clear h
 have H' := Aside0.mk H
 clear H
 go_enter Try.func30, Try.ntmps30
 go_wp2
 go_loopg [8] k (fun kq v8 w' => ∃ (x8_1 : Int), v8 = .int .i64 x8_1 ∧ Aside0 (slices_Index_int_int.l0 kq l0 a1 (l0.length : Int) x8_1 = some r) ∧ Aside0 (kq ≤ k) ∧ Drawn0 w w')
 case atStart => exact ⟨(0), (by first | rfl | (simp; done) | (simp [*]; done)), H', ⟨Nat.le_refl _⟩, by repeat (first | exact Drawn0.refl _ | apply Drawn0.step)⟩
 clear H'
 try clear p2
 obtain ⟨x8_1, rfl, HA, HK1, ⟨m1, rfl⟩⟩ := hrel
 cases gk with
 | zero => exact absurd HA.out (by simp [slices_Index_int_int.l0])
 | succ k1 =>
  have H := HA.out
  clear HA
  simp only [slices_Index_int_int.l0] at H
  by_cases c3 : x8_1 < (l0.length : Int)
  rotate_left
  ·rw [if_neg c3] at H
   have c3b0 : decide (x8_1 < (l0.length : Int)) = false := decide_eq_false c3
   clear c3
   obtain rfl := Option.some.inj H
   go_wp2
   go_ret
   exact ⟨by first | rfl | (simp; done) | (simp [*]; done), by repeat (first | exact Drawn0.refl _ | apply Drawn0.step)⟩
  rw [if_pos c3] at H
  have c3b0 : decide (x8_1 < (l0.length : Int)) = true := decide_eq_true c3
  clear c3
  by_cases c4 : 0 ≤ x8_1
  rotate_left
  ·rw [if_neg c4] at H
   exact absurd H (by simp)
  rw [if_pos c4] at H
  have c4b0 : decide (0 ≤ x8_1) = true := decide_eq_true c4
  clear c4
  by_cases c5 : x8_1 < (l0.length : Int)
  rotate_left
  ·rw [if_neg c5] at H
   exact absurd H (by simp)
  rw [if_pos c5] at H
  have c5b0 : decide (x8_1 < (l0.length : Int)) = true := decide_eq_true c5
  clear c5
  by_cases c6 : a1 = (rd l0 x8_1)
  ·rw [if_pos c6] at H
   have c6b0 : (a1 == (rd l0 x8_1)) = true := beq_iff_eq.mpr c6
   have c6b1 : (a1 != (rd l0 x8_1)) = false := bne_eq_false_iff_eq.mpr c6
   clear c6
   obtain rfl := Option.some.inj H
   have p193 : 0 ≤ (x8_1 : Int) := oda
   have q193 : x8_1 < (l0.length : Int) := oda
   obtain ⟨ad193, e193, hx193_0⟩ := Kd.at_int HR0.out x8_1 p193 q193
   cases e193
   replace p193 := eq_true p193
   replace q193 := eq_true q193
   go_wp2
   go_ret
   exact ⟨by first | rfl | (simp; done) | (simp [*]; done), by repeat (first | exact Drawn0.refl _ | apply Drawn0.step)⟩
  rw [if_neg c6] at H
  have c6b0 : (a1 == (rd l0 x8_1)) = false := beq_eq_false_iff_ne.mpr c6
  have c6b1 : (a1 != (rd l0 x8_1)) = true := bne_iff_ne.mpr c6
  have H' := Aside0.mk H
  clear H
  have p193 : 0 ≤ (x8_1 : Int) := oda
  have q193 : x8_1 < (l0.length : Int) := oda
  obtain ⟨ad193, e193, hx193_0⟩ := Kd.at_int HR0.out x8_1 p193 q193
  cases e193
  replace p193 := eq_true p193
  replace q193 := eq_true q193
  go_wp2
  go_roundg k1
  case measure => have := HK1.out; omega
  case rel => exact ⟨(wrap64 (x8_1 + 1)), (by first | rfl | (simp; done) | (simp [*]; done)), H', ⟨by have := HK1.out; omega⟩, by repeat (first | exact Drawn0.refl _ | apply Drawn0.step)⟩
/-! ### impl_placeOf: function 29 -/
def impl_placeOf.l0 : Nat → Int → List (List Int) → Int → Int → Option (Int × Int)
 | 0, _, _, _, _ => none
 | k + 1, x1, x10, x11, x12 => if x12 < x11 then (if 0 ≤ x12 then (if x12 < (x10.length : Int) then ((slices_Index_int_int.f k (rd_L2 x10 x12) x1).bind fun t196 => (if t196 ≥ 0 then (some (x12, t196)) else (impl_placeOf.l0 k x1 x10 x11 (wrap64 (x12 + 1))))) else (none)) else (none)) else (some ((-1), (-1)))
def impl_placeOf.f (k : Nat) (l0_0 : List (List Int)) (a1 : Int) : Option (Int × Int) := impl_placeOf.l0 k a1 l0_0 (l0_0.length : Int) 0
theorem impl_placeOf.mono_l : ∀ k, (∀ y0 y1 y2 y3, LeO (impl_placeOf.l0 k y0 y1 y2 y3) (impl_placeOf.l0 (k + 1) y0 y1 y2 y3))
 | 0 => fun _ _ _ _ r h => by simp [impl_placeOf.l0] at h
 | k + 1 => by
  have ih0 := impl_placeOf.mono_l k
  ·intro y0 y1 y2 y3
   unfold impl_placeOf.l0
   repeat' first
   | (with_reducible exact ih0 _ _ _ _)
   | (with_reducible exact slices_Index_int_int.mono _ _ _)
   | (with_reducible exact LeO.refl _)
   | (with_reducible exact LeO.none _)
   | (with_reducible refine LeO.ite ?_ ?_)
   | (with_reducible refine LeO.bind ?_ (fun _ => ?_))
   | exact ih0 _ _ _ _
   | exact slices_Index_int_int.mono _ _ _
   | exact LeO.none _
   | refine LeO.ite ?_ ?_
   | refine LeO.bind ?_ (fun _ => ?_)
theorem impl_placeOf.mono : ∀ a0 a1 k, LeO (impl_placeOf.f k a0 a1) (impl_placeOf.f (k + 1) a0 a1) := by
 intro a0 a1 k
 have ih0 := impl_placeOf.mono_l k
 unfold impl_placeOf.f
 repeat' first
   | (with_reducible exact ih0 _ _ _ _)
   | (with_reducible exact slices_Index_int_int.mono _ _ _)
   | (with_reducible exact LeO.refl _)
   | (with_reducible exact LeO.none _)
   | (with_reducible refine LeO.ite ?_ ?_)
   | (with_reducible refine LeO.bind ?_ (fun _ => ?_))
   | exact ih0 _ _ _ _
   | exact slices_Index_int_int.mono _ _ _
   | exact LeO.none _
   | refine LeO.ite ?_ ?_
   | refine LeO.bind ?_ (fun _ => ?_)
set_option maxHeartbeats 8000000 in
set_option maxRecDepth 100000 in
theorem impl_placeOf.calls (k : Nat) (A0_0 : Option Addr) (c0_0 : Nat) (l0_0 : List (List Int)) (a1 : Int) (r1 : Int) (r2 : Int) (w : World) (hr0_0 : Kd.C (Kd.slice 3 (Kd.int .i64)) w A0_0 l0_0.length l0_0) (hc0_0 : l0_0.length ≤ c0_0) (h : impl_placeOf.f k l0_0 a1 = some (r1, r2)) :
  Calls Try.prog 29 #[.agg #[.slice A0_0 l0_0.length c0_0], .int .i64 a1] w fun e w' => e = .returned (.tuple #[.int .i64 r1, .int .i64 r2]) ∧ Below w.heap.size w w' := by
 have hu56 := Try.underlying56
 have HR0_0 := Aside0.mk hr0_0
 have HC0_0 := Aside0.mk hc0_0
 clear hr0_0 hc0_0
 have HB := Aside0.mk (Below.refl w.heap.size w)
 have H : (impl_placeOf.l0 k a1 l0_0 (l0_0.length : Int) 0) = some (r1, r2) := h
 clear h
 have H' := Aside0.mk H
 clear H
 go_enter Try.func29, Try.ntmps29
 go_wp2_with (first | ((with_reducible refine gate_dst (N := 2) rfl ?_); refine box_event ?hg (N := 2) ?hd (cs := #[.slice A0_0 l0_0.length c0_0]) (t := 56) ?hr ?_; (case hd => rfl); (case hg => rfl); (case hr => first | (go_simp; done) | (go_simp; rfl)); intro gb194 hg w3 hbox hb; have n0_ := Aside0.mk (below_step (bel HB) hb); have n1_ := Aside0.mk (hbox); have n2_ := Aside0.mk ((by rw [hg]; exact (below_size (bel HB)) : w.heap.size ≤ gb194)); have n3_ := Aside0.mk ((by rw [hg]; exact (below_size (bel HB)) : w.heap.size ≤ gb194)); clear HB; have HB := n0_; have BK194 := n1_; have GW194 := n2_; have GE194 := n3_; clear n0_ n1_ n2_ n3_; clear hb hbox hg; have hcz4_0 : w3.cell? ⟨gb194, 0, none⟩ = some (.slice A0_0 l0_0.length c0_0) := (blk_cell BK194.out 0).trans rfl; have hfz4_0 := blk_frozen BK194.out 0))
 go_loopg [12] k (fun kq v12 w' => ∃ (x12_1 : Int), v12 = .int .i64 x12_1 ∧ Aside0 (impl_placeOf.l0 kq a1 l0_0 (l0_0.length : Int) x12_1 = some (r1, r2)) ∧ Aside0 (kq ≤ k) ∧ Aside0 (w'.heap[gb194]? = some (.cells #[(.slice A0_0 l0_0.length c0_0)] 56 (0, 0))) ∧ Aside0 (Below w.heap.size w w'))
 case atStart => exact ⟨(0), (by first | rfl | (simp; done) | (simp [*]; done)), H', ⟨Nat.le_refl _⟩, ⟨bkl BK194⟩, ⟨bel1 HB GE194⟩⟩
 clear H'
 try clear c2
 try clear p2
 try clear hcz4_0
 try clear hfz4_0
 obtain ⟨x12_1, rfl, HA, HK1, BK194, HB⟩ := hrel
 cases gk with
 | zero => exact absurd HA.out (by simp [impl_placeOf.l0])
 | succ k1 =>
  have H := HA.out
  clear HA
  simp only [impl_placeOf.l0] at H
  by_cases c5 : x12_1 < (l0_0.length : Int)
  rotate_left
  ·rw [if_neg c5] at H
   have c5b0 : decide (x12_1 < (l0_0.length : Int)) = false := decide_eq_false c5
   clear c5
   simp only [Option.some.injEq, Prod.mk.injEq] at H
   obtain ⟨rfl, rfl⟩ := H
   go_wp2
   go_ret2
   exact ⟨by first | rfl | (simp [errW_none, errW_some] <;> rfl) | (simp [*, errW_none, errW_some] <;> rfl), bel1 HB GE194⟩
  rw [if_pos c5] at H
  have c5b0 : decide (x12_1 < (l0_0.length : Int)) = true := decide_eq_true c5
  clear c5
  by_cases c6 : 0 ≤ x12_1
  rotate_left
  ·rw [if_neg c6] at H
   exact absurd H (by simp)
  rw [if_pos c6] at H
  have c6b0 : decide (0 ≤ x12_1) = true := decide_eq_true c6
  clear c6
  by_cases c7 : x12_1 < (l0_0.length : Int)
  rotate_left
  ·rw [if_neg c7] at H
   exact absurd H (by simp)
  rw [if_pos c7] at H
  have c7b0 : decide (x12_1 < (l0_0.length : Int)) = true := decide_eq_true c7
  clear c7
  replace H := Option.bind_eq_some_iff.mp H
  obtain ⟨t196, A80, H⟩ := H
  replace H : (if t196 ≥ 0 then (some (x12_1, t196)) else (impl_placeOf.l0 k1 a1 l0_0 (l0_0.length : Int) (wrap64 (x12_1 + 1)))) = some (r1, r2) := H
  have A8 := Aside0.mk A80
  clear A80
  by_cases c9 : t196 ≥ 0
  ·rw [if_pos c9] at H
   have c9b0 : decide (0 ≤ t196) = true := decide_eq_true c9
   clear c9
   simp only [Option.some.injEq, Prod.mk.injEq] at H
   obtain ⟨rfl, rfl⟩ := H
   have p195 : 0 ≤ (x12_1 : Int) := oda
   have q195 : x12_1 < (l0_0.length : Int) := oda
   obtain ⟨ad195, A195_0, c195_0, e195, hx195_0, hl195_0, hi195_0⟩ := at_L2 HR0_0.out x12_1 p195 q195
   cases e195
   replace hx195_0 := cel HB hx195_0
   have HR195_0 := Aside0.mk hi195_0
   have HC195_0 := Aside0.mk hl195_0
   clear hi195_0 hl195_0
   replace p195 := eq_true p195
   replace q195 := eq_true q195
   go_wp2_with (first | ((with_reducible refine gate_callee (f := 30) rfl ?_); refine goesL_ (some 19) rfl rfl Try.func30 (by kernel_rfl) rfl #[.slice A195_0 (rd_L2 l0_0 x12_1).length c195_0, .int .i64 a1] rfl gmp ?_; (with_reducible refine (slices_Index_int_int.calls k1 _ _ (rd_L2 l0_0 x12_1) a1 t196 _ ?side1 ?side2 A8.out).mono ?_); (case side1 => exact cdl (Kd.C_below HR195_0.out HB.out)); (case side2 => exact HC195_0.out); rintro e w' ⟨rfl, ⟨nd, rfl⟩⟩; refine ⟨_, rfl, ?_⟩))
   go_ret2
   exact ⟨by first | rfl | (simp [errW_none, errW_some] <;> rfl) | (simp [*, errW_none, errW_some] <;> rfl), bel1 HB GE194⟩
  rw [if_neg c9] at H
  have c9b0 : decide (0 ≤ t196) = false := decide_eq_false c9
  clear c9
  have H' := Aside0.mk H
  clear H
  have p195 : 0 ≤ (x12_1 : Int) := oda
  have q195 : x12_1 < (l0_0.length : Int) := oda
  obtain ⟨ad195, A195_0, c195_0, e195, hx195_0, hl195_0, hi195_0⟩ := at_L2 HR0_0.out x12_1 p195 q195
  cases e195
  replace hx195_0 := cel HB hx195_0
  have HR195_0 := Aside0.mk hi195_0
  have HC195_0 := Aside0.mk hl195_0
  clear hi195_0 hl195_0
  replace p195 := eq_true p195
  replace q195 := eq_true q195
  go_wp2_with (first | ((with_reducible refine gate_callee (f := 30) rfl ?_); refine goesL_ (some 19) rfl rfl Try.func30 (by kernel_rfl) rfl #[.slice A195_0 (rd_L2 l0_0 x12_1).length c195_0, .int .i64 a1] rfl gmp ?_; (with_reducible refine (slices_Index_int_int.calls k1 _ _ (rd_L2 l0_0 x12_1) a1 t196 _ ?side1 ?side2 A8.out).mono ?_); (case side1 => exact cdl (Kd.C_below HR195_0.out HB.out)); (case side2 => exact HC195_0.out); rintro e w' ⟨rfl, ⟨nd, rfl⟩⟩; refine ⟨_, rfl, ?_⟩))
  go_roundg k1
  case measure => have := HK1.out; omega
  case rel => exact ⟨(wrap64 (x12_1 + 1)), (by first | rfl | (simp; done) | (simp [*]; done)), H', ⟨by have := HK1.out; omega⟩, ⟨bkl BK194⟩, ⟨bel1 HB GE194⟩⟩
/-! ### impl_slotOf: function 16 -/
def impl_slotOf.f (k : Nat) (a0_0 : Int) (l0_1 : List (List Int)) (a1 : Int) : Option (Int × Int) := (impl_placeOf.f k l0_1 a1).bind fun bt198 => (some (bt198.1, bt198.2))
theorem impl_slotOf.mono : ∀ a0 a1 a2 k, LeO (impl_slotOf.f k a0 a1 a2) (impl_slotOf.f (k + 1) a0 a1 a2) := by
 intro a0 a1 a2 k
 unfold impl_slotOf.f
 repeat' first
   | (with_reducible exact impl_placeOf.mono _ _ _)
   | (with_reducible exact LeO.refl _)
   | (with_reducible exact LeO.none _)
   | (with_reducible refine LeO.ite ?_ ?_)
   | (with_reducible refine LeO.bind ?_ (fun _ => ?_))
   | exact impl_placeOf.mono _ _ _
   | exact LeO.none _
   | refine LeO.ite ?_ ?_
   | refine LeO.bind ?_ (fun _ => ?_)
set_option maxHeartbeats 8000000 in
set_option maxRecDepth 100000 in
theorem impl_slotOf.calls (k : Nat) (a0_0 : Int) (A0_1 : Option Addr) (c0_1 : Nat) (l0_1 : List (List Int)) (a1 : Int) (r1 : Int) (r2 : Int) (w : World) (hr0_1 : Kd.C (Kd.slice 3 (Kd.int .i64)) w A0_1 l0_1.length l0_1) (hc0_1 : l0_1.length ≤ c0_1) (h : impl_slotOf.f k a0_0 l0_1 a1 = some (r1, r2)) :
  Calls Try.prog 16 #[.agg #[.int .i64 a0_0, .slice A0_1 l0_1.length c0_1], .int .i64 a1] w fun e w' => e = .returned (.tuple #[.int .i64 r1, .int .i64 r2]) ∧ Below w.heap.size w w' := by
 have hu26 := Try.underlying26
 have hu56 := Try.underlying56
 have HR0_1 := Aside0.mk hr0_1
 have HC0_1 := Aside0.mk hc0_1
 clear hr0_1 hc0_1
 have HB := Aside0.mk (Below.refl w.heap.size w)
 have H : ((impl_placeOf.f k l0_1 a1).bind fun bt198 => (some (bt198.1, bt198.2))) = some (r1, r2) := h
 clear h
 replace H := Option.bind_eq_some_iff.mp H
 obtain ⟨⟨t198, t199⟩, A30, H⟩ := H
 replace H : (some (t198, t199)) = some (r1, r2) := H
 have A3 := Aside0.mk A30
 clear A30
 simp only [Option.some.injEq, Prod.mk.injEq] at H
 obtain ⟨rfl, rfl⟩ := H
 go_enter Try.func16, Try.ntmps16
 go_wp2_with (first | ((with_reducible refine gate_dst (N := 2) rfl ?_); refine box_event ?hg (N := 2) ?hd (cs := #[.int .i64 a0_0, .slice A0_1 l0_1.length c0_1]) (t := 26) ?hr ?_; (case hd => rfl); (case hg => rfl); (case hr => first | (go_simp; done) | (go_simp; rfl)); intro gb197 hg w4 hbox hb; have n0_ := Aside0.mk (below_step (bel HB) hb); have n1_ := Aside0.mk (hbox); have n2_ := Aside0.mk ((by rw [hg]; exact (below_size (bel HB)) : w.heap.size ≤ gb197)); have n3_ := Aside0.mk ((by rw [hg]; exact (below_size (bel HB)) : w.heap.size ≤ gb197)); clear HB; have HB := n0_; have BK197 := n1_; have GW197 := n2_; have GE197 := n3_; clear n0_ n1_ n2_ n3_; clear hb hbox hg; have hcz5_0 : w4.cell? ⟨gb197, 0, none⟩ = some (.int .i64 a0_0) := (blk_cell BK197.out 0).trans rfl; have hcz5_1 : w4.cell? ⟨gb197, 1, none⟩ = some (.slice A0_1 l0_1.length c0_1) := (blk_cell BK197.out 1).trans rfl; have hfz5_0 := blk_frozen BK197.out 0; have hfz5_1 := blk_frozen BK197.out 1) | ((with_reducible refine gate_callee (f := 29) rfl ?_); refine goesL_ (some 10) rfl rfl Try.func29 (by kernel_rfl) rfl #[.agg #[.slice A0_1 l0_1.length c0_1], .int .i64 a1] rfl gmp ?_; (with_reducible refine (impl_placeOf.calls k _ _ l0_1 a1 t198 t199 _ ?side1 ?side2 A3.out).mono ?_); (case side1 => exact cdl (Kd.C_below HR0_1.out HB.out)); (case side2 => exact HC0_1.out); rintro e w6 ⟨rfl, hb⟩; refine ⟨_, rfl, ?_⟩; have n0_ := Aside0.mk (blk_below (g := gb197) (o := .cells #[.int .i64 a0_0, .slice A0_1 l0_1.length c0_1] 26 (0, 0)) (bkl BK197) hb); have n1_ := Aside0.mk (below_step (bel1 HB GE197) hb); clear BK197; clear HB; have BK197 := n0_; have HB := n1_; clear n0_ n1_; (try clear hb); (try clear hb2); (try clear hk); (try clear hi)))
 go_ret2
 exact ⟨by first | rfl | (simp [errW_none, errW_some] <;> rfl) | (simp [*, errW_none, errW_some] <;> rfl), bel1 HB GE197⟩
/-! ### slices_Contains_int_int: function 17 -/
def slices_Contains_int_int.f (k : Nat) (l0 : List Int) (a1 : Int) : Option (Bool) := (slices_Index_int_int.f k l0 a1).bind fun t200 => (some (decide (t200 ≥ 0)))
theorem slices_Contains_int_int.mono : ∀ a0 a1 k, LeO (slices_Contains_int_int.f k a0 a1) (slices_Contains_int_int.f (k + 1) a0 a1) := by
 intro a0 a1 k
 unfold slices_Contains_int_int.f
 repeat' first
   | (with_reducible exact slices_Index_int_int.mono _ _ _)
   | (with_reducible exact LeO.refl _)
   | (with_reducible exact LeO.none _)
   | (with_reducible refine LeO.ite ?_ ?_)
   | (with_reducible refine LeO.bind ?_ (fun _ => ?_))
   | exact slices_Index_int_int.mono _ _ _
   | exact LeO.none _
   | refine LeO.ite ?_ ?_
   | refine LeO.bind ?_ (fun _ => ?_)
set_option maxHeartbeats 8000000 in
set_option maxRecDepth 100000 in
theorem slices_Contains_int_int.calls (k : Nat) (A0 : Option Addr) (c0 : Nat) (l0 : List Int) (a1 : Int) (r : Bool) (w : World) (hr0 : Kd.C (Kd.int .i64) w A0 l0.length l0) (hc0 : l0.length ≤ c0) (h : slices_Contains_int_int.f k l0 a1 = some r) :
  Calls Try.prog 17 #[.slice A0 l0.length c0, .int .i64 a1] w fun e w' => e = .returned (.bool r) ∧ Drawn0 w w' := by
 have HR0 := Aside0.mk hr0
 have HC0 := Aside0.mk hc0
 clear hr0 hc0
 have H : ((slices_Index_int_int.f k l0 a1).bind fun t200 => (some (decide (t200 ≥ 0)))) = some r := h
 clear h
 replace H := Option.bind_eq_some_iff.mp H
 obtain ⟨t200, A30, H⟩ := H
 replace H : (some (decide (t200 ≥ 0))) = some r := H
 have A3 := Aside0.mk A30
 clear A30
 obtain rfl := Option.some.inj H
 go_enter Try.func17, Try.ntmps17
 go_wp2_with (first | ((with_reducible refine gate_callee (f := 30) rfl ?_); refine goesL_ (some 7) rfl rfl Try.func30 (by kernel_rfl) rfl #[.slice A0 l0.length c0, .int .i64 a1] rfl gmp ?_; (with_reducible refine (slices_Index_int_int.calls k _ _ l0 a1 t200 _ ?side1 ?side2 A3.out).mono ?_); (case side1 => exact cdl HR0.out); (case side2 => exact HC0.out); rintro e w' ⟨rfl, ⟨nd, rfl⟩⟩; refine ⟨_, rfl, ?_⟩))
 go_ret
 exact ⟨by first | rfl | (simp; done) | (simp [*]; done), by repeat (first | exact Drawn0.refl _ | apply Drawn0.step)⟩
/-! ### impl_OverstowsOf: function 6 -/
mutual
def impl_OverstowsOf.l0 : Nat → List Int → List Int → List Int → Int → Int → Int → List (List Int) → Option (List Int × Bool)
 | 0, _, _, _, _, _, _, _ => none
 | k + 1, x1, x6, x18, x19, x20, x202000, x202001 => if x20 < x19 then (if 0 ≤ x20 then (if x20 < (x18.length : Int) then ((impl_slotOf.f k x202000 x202001 (rd x18 x20)).bind fun bt207 => (if bt207.1 < 0 then (impl_OverstowsOf.j1 k x1 x6 x20 bt207.1 bt207.2 x18 x19 x20 true x202000 x202001) else (if x20 ≤ (x1.length : Int) then ((slices_Contains_int_int.f k (x1.take (x20 : Int).toNat) (rd x18 x20)).bind fun t210 => (impl_OverstowsOf.j1 k x1 x6 x20 bt207.1 bt207.2 x18 x19 x20 t210 x202000 x202001)) else (none)))) else (none)) else (none)) else (some (x6, true))
def impl_OverstowsOf.j1 : Nat → List Int → List Int → Int → Int → Int → List Int → Int → Int → Bool → Int → List (List Int) → Option (List Int × Bool)
 | 0, _, _, _, _, _, _, _, _, _, _, _ => none
 | k + 1, x1, x6, x7, x9, x10, x18, x19, x20, x39, x202000, x202001 => if x39 = true then (some (([] : List Int), false)) else (if 0 ≤ x9 then (if x9 < (x202001.length : Int) then (if 0 ≤ (wrap64 (x10 + 1)) then (if (wrap64 (x10 + 1)) ≤ ((rd_L2 x202001 x9).length : Int) then (impl_OverstowsOf.l1 k x1 x6 x7 0 x18 x19 x20 ((rd_L2 x202001 x9).drop ((wrap64 (x10 + 1)) : Int).toNat) (((rd_L2 x202001 x9).drop ((wrap64 (x10 + 1)) : Int).toNat).length : Int) 0 x202000 x202001) else (none)) else (none)) else (none)) else (none))
def impl_OverstowsOf.l1 : Nat → List Int → List Int → Int → Int → List Int → Int → Int → List Int → Int → Int → Int → List (List Int) → Option (List Int × Bool)
 | 0, _, _, _, _, _, _, _, _, _, _, _, _ => none
 | k + 1, x1, x6, x7, x11, x18, x19, x20, x47, x48, x49, x202000, x202001 => if x49 < x48 then (if 0 ≤ x49 then (if x49 < (x47.length : Int) then (if 0 ≤ x7 then (if x7 ≤ (x1.length : Int) then ((slices_Contains_int_int.f k (x1.take (x7 : Int).toNat) (rd x47 x49)).bind fun t215 => (if t215 = true then (impl_OverstowsOf.l1 k x1 x6 x7 x11 x18 x19 x20 x47 x48 (wrap64 (x49 + 1)) x202000 x202001) else (impl_OverstowsOf.l1 k x1 x6 x7 (wrap64 (x11 + 1)) x18 x19 x20 x47 x48 (wrap64 (x49 + 1)) x202000 x202001))) else (none)) else (none)) else (none)) else (none)) else (if x6.length < 17592186044416 then (impl_OverstowsOf.l0 k x1 (x6 ++ [x11]) x18 x19 (wrap64 (x20 + 1)) x202000 x202001) else (none))
end
def impl_OverstowsOf.f (k : Nat) (a0_0 : Int) (l0_1 : List (List Int)) (l1 : List Int) : Option (List Int × Bool) := (impl_IsValidBay.f a0_0 l0_1).bind fun t202 => (if t202 = true then (impl_OverstowsOf.l0 k l1 (([] : List Int)) l1 (l1.length : Int) 0 a0_0 l0_1) else (some (([] : List Int), false)))
theorem impl_OverstowsOf.mono_l : ∀ k, (∀ y0 y1 y2 y3 y4 y5 y6, LeO (impl_OverstowsOf.l0 k y0 y1 y2 y3 y4 y5 y6) (impl_OverstowsOf.l0 (k + 1) y0 y1 y2 y3 y4 y5 y6)) ∧ (∀ y0 y1 y2 y3 y4 y5 y6 y7 y8 y9 y10, LeO (impl_OverstowsOf.j1 k y0 y1 y2 y3 y4 y5 y6 y7 y8 y9 y10) (impl_OverstowsOf.j1 (k + 1) y0 y1 y2 y3 y4 y5 y6 y7 y8 y9 y10)) ∧ (∀ y0 y1 y2 y3 y4 y5 y6 y7 y8 y9 y10 y11, LeO (impl_OverstowsOf.l1 k y0 y1 y2 y3 y4 y5 y6 y7 y8 y9 y10 y11) (impl_OverstowsOf.l1 (k + 1) y0 y1 y2 y3 y4 y5 y6 y7 y8 y9 y10 y11))
 | 0 => ⟨fun _ _ _ _ _ _ _ r h => by simp [impl_OverstowsOf.l0] at h, fun _ _ _ _ _ _ _ _ _ _ _ r h => by simp [impl_OverstowsOf.j1] at h, fun _ _ _ _ _ _ _ _ _ _ _ _ r h => by simp [impl_OverstowsOf.l1] at h⟩
 | k + 1 => by
  obtain ⟨ih0, ih1, ih2⟩ := impl_OverstowsOf.mono_l k
  refine ⟨?_, ?_, ?_⟩
  ·intro y0 y1 y2 y3 y4 y5 y6
   unfold impl_OverstowsOf.l0
   repeat' first
   | (with_reducible exact ih0 _ _ _ _ _ _ _)
   | (with_reducible exact ih1 _ _ _ _ _ _ _ _ _ _ _)
   | (with_reducible exact ih2 _ _ _ _ _ _ _ _ _ _ _ _)
   | (with_reducible exact impl_slotOf.mono _ _ _ _)
   | (with_reducible exact slices_Contains_int_int.mono _ _ _)
   | (with_reducible exact LeO.refl _)
   | (with_reducible exact LeO.none _)
   | (with_reducible refine LeO.ite ?_ ?_)
   | (with_reducible refine LeO.bind ?_ (fun _ => ?_))
   | exact ih0 _ _ _ _ _ _ _
   | exact ih1 _ _ _ _ _ _ _ _ _ _ _
   | exact ih2 _ _ _ _ _ _ _ _ _ _ _ _
   | exact impl_slotOf.mono _ _ _ _
   | exact slices_Contains_int_int.mono _ _ _
   | exact LeO.none _
   | refine LeO.ite ?_ ?_
   | refine LeO.bind ?_ (fun _ => ?_)
  ·intro y0 y1 y2 y3 y4 y5 y6 y7 y8 y9 y10
   unfold impl_OverstowsOf.j1
   repeat' first
   | (with_reducible exact ih0 _ _ _ _ _ _ _)
   | (with_reducible exact ih1 _ _ _ _ _ _ _ _ _ _ _)
   | (with_reducible exact ih2 _ _ _ _ _ _ _ _ _ _ _ _)
   | (with_reducible exact impl_slotOf.mono _ _ _ _)
   | (with_reducible exact slices_Contains_int_int.mono _ _ _)
   | (with_reducible exact LeO.refl _)
   | (with_reducible exact LeO.none _)
   | (with_reducible refine LeO.ite ?_ ?_)
   | (with_reducible refine LeO.bind ?_ (fun _ => ?_))
   | exact ih0 _ _ _ _ _ _ _
   | exact ih1 _ _ _ _ _ _ _ _ _ _ _
   | exact ih2 _ _ _ _ _ _ _ _ _ _ _ _
   | exact impl_slotOf.mono _ _ _ _
   | exact slices_Contains_int_int.mono _ _ _
   | exact LeO.none _
   | refine LeO.ite ?_ ?_
   | refine LeO.bind ?_ (fun _ => ?_)
  ·intro y0 y1 y2 y3 y4 y5 y6 y7 y8 y9 y10 y11
   unfold impl_OverstowsOf.l1
   repeat' first
   | (with_reducible exact ih0 _ _ _ _ _ _ _)
   | (with_reducible exact ih1 _ _ _ _ _ _ _ _ _ _ _)
   | (with_reducible exact ih2 _ _ _ _ _ _ _ _ _ _ _ _)
   | (with_reducible exact impl_slotOf.mono _ _ _ _)
   | (with_reducible exact slices_Contains_int_int.mono _ _ _)
   | (with_reducible exact LeO.refl _)
   | (with_reducible exact LeO.none _)
   | (with_reducible refine LeO.ite ?_ ?_)
   | (with_reducible refine LeO.bind ?_ (fun _ => ?_))
   | exact ih0 _ _ _ _ _ _ _
   | exact ih1 _ _ _ _ _ _ _ _ _ _ _
   | exact ih2 _ _ _ _ _ _ _ _ _ _ _ _
   | exact impl_slotOf.mono _ _ _ _
   | exact slices_Contains_int_int.mono _ _ _
   | exact LeO.none _
   | refine LeO.ite ?_ ?_
   | refine LeO.bind ?_ (fun _ => ?_)
theorem impl_OverstowsOf.mono : ∀ a0 a1 a2 k, LeO (impl_OverstowsOf.f k a0 a1 a2) (impl_OverstowsOf.f (k + 1) a0 a1 a2) := by
 intro a0 a1 a2 k
 obtain ⟨ih0, ih1, ih2⟩ := impl_OverstowsOf.mono_l k
 unfold impl_OverstowsOf.f
 repeat' first
   | (with_reducible exact ih0 _ _ _ _ _ _ _)
   | (with_reducible exact ih1 _ _ _ _ _ _ _ _ _ _ _)
   | (with_reducible exact ih2 _ _ _ _ _ _ _ _ _ _ _ _)
   | (with_reducible exact impl_slotOf.mono _ _ _ _)
   | (with_reducible exact slices_Contains_int_int.mono _ _ _)
   | (with_reducible exact LeO.refl _)
   | (with_reducible exact LeO.none _)
   | (with_reducible refine LeO.ite ?_ ?_)
   | (with_reducible refine LeO.bind ?_ (fun _ => ?_))
   | exact ih0 _ _ _ _ _ _ _
   | exact ih1 _ _ _ _ _ _ _ _ _ _ _
   | exact ih2 _ _ _ _ _ _ _ _ _ _ _ _
   | exact impl_slotOf.mono _ _ _ _
   | exact slices_Contains_int_int.mono _ _ _
   | exact LeO.none _
   | refine LeO.ite ?_ ?_
   | refine LeO.bind ?_ (fun _ => ?_)
set_option maxHeartbeats 8000000 in
set_option maxRecDepth 100000 in
theorem impl_OverstowsOf.calls (k : Nat) (a0_0 : Int) (A0_1 : Option Addr) (c0_1 : Nat) (l0_1 : List (List Int)) (A1 : Option Addr) (c1 : Nat) (l1 : List Int) (r1 : List Int) (r2 : Bool) (w : World) (hr0_1 : Kd.C (Kd.slice 3 (Kd.int .i64)) w A0_1 l0_1.length l0_1) (hc0_1 : l0_1.length ≤ c0_1) (hr1 : Kd.C (Kd.int .i64) w A1 l1.length l1) (hc1 : l1.length ≤ c1) (h : impl_OverstowsOf.f k a0_0 l0_1 l1 = some (r1, r2)) :
  Calls Try.prog 6 #[.agg #[.int .i64 a0_0, .slice A0_1 l0_1.length c0_1], .slice A1 l1.length c1] w fun e w' => ∃ v0_ : Value, e = .returned (.tuple #[v0_, .bool r2]) ∧ Kd.R (Kd.int .i64) 3 w' w.heap.size (fun _ => True) v0_ r1 ∧ Below w.heap.size w w' := by
 have hu26 := Try.underlying26
 have HR0_1 := Aside0.mk hr0_1
 have HC0_1 := Aside0.mk hc0_1
 clear hr0_1 hc0_1
 have HR1 := Aside0.mk hr1
 have HC1 := Aside0.mk hc1
 clear hr1 hc1
 have HB := Aside0.mk (Below.refl w.heap.size w)
 have H : ((impl_IsValidBay.f a0_0 l0_1).bind fun t202 => (if t202 = true then (impl_OverstowsOf.l0 k l1 (([] : List Int)) l1 (l1.length : Int) 0 a0_0 l0_1) else (some (([] : List Int), false)))) = some (r1, r2) := h
 clear h
 replace H := Option.bind_eq_some_iff.mp H
 obtain ⟨t202, A30, H⟩ := H
 replace H : (if t202 = true then (impl_OverstowsOf.l0 k l1 (([] : List Int)) l1 (l1.length : Int) 0 a0_0 l0_1) else (some (([] : List Int), false))) = some (r1, r2) := H
 have A3 := Aside0.mk A30
 clear A30
 by_cases c4 : t202 = true
 rotate_left
 ·replace c4 := Bool.eq_false_iff.mpr c4
  subst c4
  have H1 : (some (([] : List Int), false)) = some (r1, r2) := by rw [if_neg (show ¬ (false = true) by decide)] at H; exact H
  clear H
  have H := H1
  clear H1
  simp only [Option.some.injEq, Prod.mk.injEq] at H
  obtain ⟨rfl, rfl⟩ := H
  go_enter Try.func6, Try.ntmps6
  go_wp2_with (first | ((with_reducible refine gate_dst (N := 2) rfl ?_); refine box_event ?hg (N := 2) ?hd (cs := #[.int .i64 a0_0, .slice A0_1 l0_1.length c0_1]) (t := 26) ?hr ?_; (case hd => rfl); (case hg => rfl); (case hr => first | (go_simp; done) | (go_simp; rfl)); intro gb201 hg w41 hbox hb; have n0_ := Aside0.mk (below_step (bel HB) hb); have n1_ := Aside0.mk (hbox); have n2_ := Aside0.mk ((by rw [hg]; exact (below_size (bel HB)) : w.heap.size ≤ gb201)); have n3_ := Aside0.mk ((by rw [hg]; exact (below_size (bel HB)) : w.heap.size ≤ gb201)); clear HB; have HB := n0_; have BK201 := n1_; have GW201 := n2_; have GE201 := n3_; clear n0_ n1_ n2_ n3_; clear hb hbox hg; have hcz42_0 : w41.cell? ⟨gb201, 0, none⟩ = some (.int .i64 a0_0) := (blk_cell BK201.out 0).trans rfl; have hcz42_1 : w41.cell? ⟨gb201, 1, none⟩ = some (.slice A0_1 l0_1.length c0_1) := (blk_cell BK201.out 1).trans rfl; have hfz42_0 := blk_frozen BK201.out 0; have hfz42_1 := blk_frozen BK201.out 1) | ((with_reducible refine gate_callee (f := 15) rfl ?_); refine goesL_ (some 15) rfl rfl Try.func15 (by kernel_rfl) rfl #[.agg #[.int .i64 a0_0, .slice A0_1 l0_1.length c0_1]] rfl gmp ?_; (with_reducible refine (impl_IsValidBay.calls a0_0 _ _ l0_1 false _ ?side1 ?side2 A3.out).mono ?_); (case side1 => exact cdl (Kd.C_below HR0_1.out HB.out)); (case side2 => exact HC0_1.out); rintro e w43 ⟨rfl, hb⟩; refine ⟨_, rfl, ?_⟩; have n0_ := Aside0.mk (blk_below (g := gb201) (o := .cells #[.int .i64 a0_0, .slice A0_1 l0_1.length c0_1] 26 (0, 0)) (bkl BK201) hb); have n1_ := Aside0.mk (below_step (bel1 HB GE201) hb); clear BK201; clear HB; have BK201 := n0_; have HB := n1_; clear n0_ n1_; (try clear hb); (try clear hb2); (try clear hk); (try clear hi)))
  go_ret2
  exact ⟨_, by first | rfl | (simp [errW_none, errW_some] <;> rfl) | (simp [*, errW_none, errW_some] <;> rfl), by first | exact Kd.R_nil _ _ _ _ _ | exact Kd.N_nil _ _ _ _ _ | exact Kd.V_nil _ _ _ _ _ | exact Kd.Q_nil _ _ _ _ _ | exact Kd.S_nil _ _ _ _ _, bel1 HB GE201⟩
 subst c4
 have H1 : (impl_OverstowsOf.l0 k l1 (([] : List Int)) l1 (l1.length : Int) 0 a0_0 l0_1) = some (r1, r2) := by rw [if_pos rfl] at H; exact H
 clear H
 have H := H1
 clear H1
 obtain ⟨y203, hy203⟩ : ∃ y_ : List Int, y_ = (([] : List Int)) := ⟨_, rfl⟩
 replace H : (impl_OverstowsOf.l0 k l1 y203 l1 (l1.length : Int) 0 a0_0 l0_1) = some (r1, r2) := by first | (rw [hy203]; with_reducible exact H) | (have H2_ := (Option.bind_some _ _).symm.trans H; rw [hy203]; with_reducible exact H2_) | (have H2_ := (Option.bind_some _ _).symm.trans H; with_reducible exact H2_) | with_reducible exact H | (rw [hy203]; exact H) | exact H
 have Ny203 := Aside0.mk hy203
 clear hy203
 have H' := Aside0.mk H
 clear H
 go_enter Try.func6, Try.ntmps6
 go_wp2_with (first | ((with_reducible refine gate_dst (N := 2) rfl ?_); refine box_event ?hg (N := 2) ?hd (cs := #[.int .i64 a0_0, .slice A0_1 l0_1.length c0_1]) (t := 26) ?hr ?_; (case hd => rfl); (case hg => rfl); (case hr => first | (go_simp; done) | (go_simp; rfl)); intro gb201 hg w5 hbox hb; have n0_ := Aside0.mk (below_step (bel HB) hb); have n1_ := Aside0.mk (hbox); have n2_ := Aside0.mk ((by rw [hg]; exact (below_size (bel HB)) : w.heap.size ≤ gb201)); have n3_ := Aside0.mk ((by rw [hg]; exact (below_size (bel HB)) : w.heap.size ≤ gb201)); clear HB; have HB := n0_; have BK201 := n1_; have GW201 := n2_; have GE201 := n3_; clear n0_ n1_ n2_ n3_; clear hb hbox hg; have hcz6_0 : w5.cell? ⟨gb201, 0, none⟩ = some (.int .i64 a0_0) := (blk_cell BK201.out 0).trans rfl; have hcz6_1 : w5.cell? ⟨gb201, 1, none⟩ = some (.slice A0_1 l0_1.length c0_1) := (blk_cell BK201.out 1).trans rfl; have hfz6_0 := blk_frozen BK201.out 0; have hfz6_1 := blk_frozen BK201.out 1) | ((with_reducible refine gate_callee (f := 15) rfl ?_); refine goesL_ (some 15) rfl rfl Try.func15 (by kernel_rfl) rfl #[.agg #[.int .i64 a0_0, .slice A0_1 l0_1.length c0_1]] rfl gmp ?_; (with_reducible refine (impl_IsValidBay.calls a0_0 _ _ l0_1 true _ ?side1 ?side2 A3.out).mono ?_); (case side1 => exact cdl (Kd.C_below HR0_1.out HB.out)); (case side2 => exact HC0_1.out); rintro e w7 ⟨rfl, hb⟩; refine ⟨_, rfl, ?_⟩; have n0_ := Aside0.mk (blk_below (g := gb201) (o := .cells #[.int .i64 a0_0, .slice A0_1 l0_1.length c0_1] 26 (0, 0)) (bkl BK201) hb); have n1_ := Aside0.mk (below_step (bel1 HB GE201) hb); clear BK201; clear HB; have BK201 := n0_; have HB := n1_; clear n0_ n1_; (try clear hb); (try clear hb2); (try clear hk); (try clear hi)) | ((with_reducible refine gate_dst (N := 17) rfl ?_); refine Kd.R_lit (Kd.int .i64) _ 3 ?hg (N := 17) ?hd (xs := ([] : List Int)) (inner := []) (ok := fun _ => True) (okp := fun _ => True) ?hr ?hp (fun _ hk => hk) trivial (Below.refl _ _) (Nat.le_refl _) (by simp) ?_; (case hd => rfl); (case hg => rfl); (case hr => first | (go_simp; done) | (go_simp; rfl)); (case hp => exact (Reps.none _ _)); intro v204 w8 ho9 hb hg_ hnew_; clear hg_ hnew_; (first | rw [← Ny203.out] at ho9 | (simp only [Int.reduceToNat] at ho9; rw [← Ny203.out] at ho9)); have n0_ := Aside0.mk (Kd.R_lower ho9 (below_size (bel1 HB GE201))); have n1_ := Aside0.mk (blk_below (g := gb201) (o := .cells #[.int .i64 a0_0, .slice A0_1 l0_1.length c0_1] 26 (0, 0)) (bkl BK201) hb); have n2_ := Aside0.mk (below_step (bel1 HB GE201) hb); clear BK201; clear HB; have HO205 := n0_; have BK201 := n1_; have HB := n2_; clear n0_ n1_ n2_; clear hb ho9))
 go_loopg [6, 20] k (fun kq v6 v20 w' => ∃ (x6_1 : List Int) (x20_1 : Int), v20 = .int .i64 x20_1 ∧ Aside0 (impl_OverstowsOf.l0 kq l1 x6_1 l1 (l1.length : Int) x20_1 a0_0 l0_1 = some (r1, r2)) ∧ Aside0 (kq ≤ k) ∧ Aside0 (Kd.R (Kd.int .i64) 3 w' w.heap.size (fun _ => True) v6 x6_1) ∧ Aside0 (w'.heap[gb201]? = some (.cells #[.int .i64 a0_0, (.slice A0_1 l0_1.length c0_1)] 26 (0, 0))) ∧ Aside0 (Below w.heap.size w w'))
 case atStart => exact ⟨(y203), (0), (by first | rfl | (simp; done) | (simp [*]; done)), H', ⟨Nat.le_refl _⟩, ⟨rdl HO205⟩, ⟨bkl BK201⟩, ⟨bel1 HB GE201⟩⟩
 clear H'
 try clear c1
 try clear p2
 try clear c4
 try clear c6
 try clear hcz6_0
 try clear hcz6_1
 try clear hfz6_0
 try clear hfz6_1
 obtain ⟨x6_1, x20_1, rfl, HA, HK1, HO_6, BK201, HB⟩ := hrel
 cases gk with
 | zero => exact absurd HA.out (by simp [impl_OverstowsOf.l0])
 | succ k1 =>
  have H := HA.out
  clear HA
  simp only [impl_OverstowsOf.l0] at H
  by_cases c10 : x20_1 < (l1.length : Int)
  rotate_left
  ·rw [if_neg c10] at H
   have c10b0 : decide (x20_1 < (l1.length : Int)) = false := decide_eq_false c10
   clear c10
   simp only [Option.some.injEq, Prod.mk.injEq] at H
   obtain ⟨rfl, rfl⟩ := H
   go_wp2
   go_ret2
   exact ⟨_, by first | rfl | (simp [errW_none, errW_some] <;> rfl) | (simp [*, errW_none, errW_some] <;> rfl), rdl HO_6, bel1 HB GE201⟩
  rw [if_pos c10] at H
  have c10b0 : decide (x20_1 < (l1.length : Int)) = true := decide_eq_true c10
  clear c10
  by_cases c11 : 0 ≤ x20_1
  rotate_left
  ·rw [if_neg c11] at H
   exact absurd H (by simp)
  rw [if_pos c11] at H
  have c11b0 : decide (0 ≤ x20_1) = true := decide_eq_true c11
  clear c11
  by_cases c12 : x20_1 < (l1.length : Int)
  rotate_left
  ·rw [if_neg c12] at H
   exact absurd H (by simp)
  rw [if_pos c12] at H
  have c12b0 : decide (x20_1 < (l1.length : Int)) = true := decide_eq_true c12
  clear c12
  replace H := Option.bind_eq_some_iff.mp H
  obtain ⟨⟨t207, t208⟩, A130, H⟩ := H
  replace H : (if t207 < 0 then (impl_OverstowsOf.j1 k1 l1 x6_1 x20_1 t207 t208 l1 (l1.length : Int) x20_1 true a0_0 l0_1) else (if x20_1 ≤ (l1.length : Int) then ((slices_Contains_int_int.f k1 (l1.take (x20_1 : Int).toNat) (rd l1 x20_1)).bind fun t210 => (impl_OverstowsOf.j1 k1 l1 x6_1 x20_1 t207 t208 l1 (l1.length : Int) x20_1 t210 a0_0 l0_1)) else (none))) = some (r1, r2) := H
  have A13 := Aside0.mk A130
  clear A130
  have HC14 := Aside0.mk H
  clear H
  have p206 : 0 ≤ (x20_1 : Int) := oda
  have q206 : x20_1 < (l1.length : Int) := oda
  obtain ⟨ad206, e206, hx206_0⟩ := Kd.at_int HR1.out x20_1 p206 q206
  cases e206
  replace hx206_0 := cel HB hx206_0
  replace p206 := eq_true p206
  replace q206 := eq_true q206
  have hcz15_0 : wr.cell? ⟨gb201, 0, none⟩ = some (.int .i64 a0_0) := (blk_cell BK201.out 0).trans rfl
  have hcz15_1 : wr.cell? ⟨gb201, 1, none⟩ = some (.slice A0_1 l0_1.length c0_1) := (blk_cell BK201.out 1).trans rfl
  have hfz15_0 := blk_frozen BK201.out 0
  have hfz15_1 := blk_frozen BK201.out 1
  go_upto_region 8 with (first | ((with_reducible refine gate_callee (f := 16) rfl ?_); refine goesL_ (some 28) rfl rfl Try.func16 (by kernel_rfl) rfl #[.agg #[.int .i64 a0_0, .slice A0_1 l0_1.length c0_1], .int .i64 (rd l1 x20_1)] rfl gmp ?_; (with_reducible refine (impl_slotOf.calls k1 a0_0 _ _ l0_1 (rd l1 x20_1) t207 t208 _ ?side1 ?side2 A13.out).mono ?_); (case side1 => exact cdl (Kd.C_below HR0_1.out HB.out)); (case side2 => exact HC0_1.out); rintro e w16 ⟨rfl, hb⟩; refine ⟨_, rfl, ?_⟩; have n0_ := Aside0.mk (Kd.R_below (rdl HO_6) hb); have n1_ := Aside0.mk (blk_below (g := gb201) (o := .cells #[.int .i64 a0_0, .slice A0_1 l0_1.length c0_1] 26 (0, 0)) (bkl BK201) hb); have n2_ := Aside0.mk (below_step (bel1 HB GE201) hb); clear HO_6; clear BK201; clear HB; have HO_6 := n0_; have BK201 := n1_; have HB := n2_; clear n0_ n1_ n2_; (try clear hb); (try clear hb2); (try clear hk); (try clear hi)))
  (try simp only [Act.put, List.setIfInBounds_toArray, List.set_cons_zero, List.set_cons_succ])
  go_cut [39] (fun v39 wc => ∃ (kq : Nat) (x39_13 : Bool), v39 = .bool x39_13 ∧ Aside0 (impl_OverstowsOf.j1 kq l1 x6_1 x20_1 t207 t208 l1 (l1.length : Int) x20_1 x39_13 a0_0 l0_1 = some (r1, r2)) ∧ Aside0 (kq ≤ k1) ∧ Aside0 (Kd.R (Kd.int .i64) 3 wc w.heap.size (fun _ => True) u6 x6_1) ∧ Aside0 (wc.heap[gb201]? = some (.cells #[.int .i64 a0_0, (.slice A0_1 l0_1.length c0_1)] 26 (0, 0))) ∧ Aside0 (Below w.heap.size w wc))
  case first =>
   have H := HC14.out
   clear HC14
   by_cases c17 : t207 < 0
   ·rw [if_pos c17] at H
    have c17b0 : decide (t207 < 0) = true := decide_eq_true c17
    clear c17
    (first | rw [c17b0] | (simp only [i64_w, i32_w]; rw [c17b0]) | skip)
    have H' := Aside0.mk H
    clear H
    go_wp2
    go_meet
    case rel => exact ⟨_, (true), (by first | rfl | (simp; done) | (simp [*]; done)), H', ⟨by have := HK1.out; first | omega | exact Nat.le_refl _⟩, ⟨rdl HO_6⟩, ⟨bkl BK201⟩, ⟨bel1 HB GE201⟩⟩
   rw [if_neg c17] at H
   have c17b0 : decide (t207 < 0) = false := decide_eq_false c17
   clear c17
   (first | rw [c17b0] | (simp only [i64_w, i32_w]; rw [c17b0]) | skip)
   have c18b0 := eq_true (oda : 0 ≤ x20_1)
   by_cases c19 : x20_1 ≤ (l1.length : Int)
   rotate_left
   ·rw [if_neg c19] at H
    exact absurd H (by simp)
   rw [if_pos c19] at H
   have c19b0 := eq_true c19
   have c19b1 : decide (x20_1 ≤ (l1.length : Int)) = true := decide_eq_true c19
   clear c19
   replace H := Option.bind_eq_some_iff.mp H
   obtain ⟨t210, A200, H⟩ := H
   replace H : (impl_OverstowsOf.j1 k1 l1 x6_1 x20_1 t207 t208 l1 (l1.length : Int) x20_1 t210 a0_0 l0_1) = some (r1, r2) := H
   have A20 := Aside0.mk A200
   clear A200
   have H' := Aside0.mk H
   clear H
   obtain ⟨i021, hi021, _, hsz21, _⟩ := info_parts info3
   obtain ⟨hcut21, hA21, hC21⟩ := print_take_of (P := Try.prog) (Value.int .i64) 0 27 3 .i64 Try.underlying27 hi021 hsz21 (some ad206) c1 l1 x20_1 (oda) (oda) HC1.out
   have HR209 := Aside0.mk (Kd.C_of_reads (h1 := fun _ => rfl) (hA21 _ (Kd.reads_of_C HR1.out)))
   have HC209 := Aside0.mk hC21
   clear hA21 hC21 hi021 hsz21
   go_wp2_with (first | (go_at_call 17; (with_reducible refine (Go.Proofs.Ytdooakhjaffcdaa.V.calls_len (n := (x20_1 : Int).toNat) (by rw [List.length_take]; have hq_ := of_decide_eq_true (show decide (x20_1 ≤ (l1.length : Int)) = true by assumption); omega) (slices_Contains_int_int.calls k1 _ _ (l1.take (x20_1 : Int).toNat) (rd l1 x20_1) t210 _ ?side1 ?side2 A20.out)).mono ?_); (case side1 => exact cdl (Kd.C_below HR209.out HB.out)); (case side2 => exact HC209.out); rintro e w' ⟨rfl, ⟨nd, rfl⟩⟩))
   go_meet
   case rel => exact ⟨_, (t210), (by first | rfl | (simp; done) | (simp [*]; done)), H', ⟨by have := HK1.out; first | omega | exact Nat.le_refl _⟩, ⟨rdl HO_6⟩, ⟨bkl BK201⟩, ⟨bel1 HB GE201⟩⟩
  clear HC14
  try clear c1
  try clear p2
  try clear q2
  try clear hx2
  try clear c4
  try clear c6
  try clear c10
  try clear c10b0
  try clear c11
  try clear c11b0
  try clear c12
  try clear c12b0
  try clear c15
  try clear c16
  try clear c17
  try clear c17b0
  try clear c18
  try clear c18b0
  try clear c19
  try clear c19b0
  try clear c19b1
  try clear p20
  try clear q20
  try clear hx20
  try clear hcz15_0
  try clear hcz15_1
  try clear hcz6_0
  try clear hcz6_1
  try clear hfz15_0
  try clear hfz15_1
  try clear hfz6_0
  try clear hfz6_1
  try clear hx206_0
  try clear p2
  try clear p206
  try clear q206
  obtain ⟨kq, x39_13, rfl, HA, HJ13, HO_6, BK201, HB⟩ := hcut
  cases kq with
  | zero => exact absurd HA.out (by simp [impl_OverstowsOf.j1])
  | succ kj13 =>
   have H := HA.out
   clear HA
   simp only [impl_OverstowsOf.j1] at H
   by_cases c22 : x39_13 = true
   ·subst c22
    have H1 : (some (([] : List Int), false)) = some (r1, r2) := by rw [if_pos rfl] at H; exact H
    clear H
    have H := H1
    clear H1
    simp only [Option.some.injEq, Prod.mk.injEq] at H
    obtain ⟨rfl, rfl⟩ := H
    go_wp2
    go_ret2
    exact ⟨_, by first | rfl | (simp [errW_none, errW_some] <;> rfl) | (simp [*, errW_none, errW_some] <;> rfl), by first | exact Kd.R_nil _ _ _ _ _ | exact Kd.N_nil _ _ _ _ _ | exact Kd.V_nil _ _ _ _ _ | exact Kd.Q_nil _ _ _ _ _ | exact Kd.S_nil _ _ _ _ _, bel1 HB GE201⟩
   replace c22 := Bool.eq_false_iff.mpr c22
   subst c22
   have H1 : (if 0 ≤ t207 then (if t207 < (l0_1.length : Int) then (if 0 ≤ (wrap64 (t208 + 1)) then (if (wrap64 (t208 + 1)) ≤ ((rd_L2 l0_1 t207).length : Int) then (impl_OverstowsOf.l1 kj13 l1 x6_1 x20_1 0 l1 (l1.length : Int) x20_1 ((rd_L2 l0_1 t207).drop ((wrap64 (t208 + 1)) : Int).toNat) (((rd_L2 l0_1 t207).drop ((wrap64 (t208 + 1)) : Int).toNat).length : Int) 0 a0_0 l0_1) else (none)) else (none)) else (none)) else (none)) = some (r1, r2) := by rw [if_neg (show ¬ (false = true) by decide)] at H; exact H
   clear H
   have H := H1
   clear H1
   by_cases c23 : 0 ≤ t207
   rotate_left
   ·rw [if_neg c23] at H
    exact absurd H (by simp)
   rw [if_pos c23] at H
   have c23b0 : decide (0 ≤ t207) = true := decide_eq_true c23
   clear c23
   by_cases c24 : t207 < (l0_1.length : Int)
   rotate_left
   ·rw [if_neg c24] at H
    exact absurd H (by simp)
   rw [if_pos c24] at H
   have c24b0 : decide (t207 < (l0_1.length : Int)) = true := decide_eq_true c24
   clear c24
   obtain ⟨ji25, hji25⟩ : ∃ j_ : Int, (wrap64 (t208 + 1)) = j_ := ⟨_, rfl⟩
   replace H : (if 0 ≤ (ji25) then (if (ji25) ≤ ((rd_L2 l0_1 t207).length : Int) then (impl_OverstowsOf.l1 kj13 l1 x6_1 x20_1 0 l1 (l1.length : Int) x20_1 ((rd_L2 l0_1 t207).drop ((ji25) : Int).toNat) (((rd_L2 l0_1 t207).drop ((ji25) : Int).toNat).length : Int) 0 a0_0 l0_1) else (none)) else (none)) = some (r1, r2) := by first | (rw [hji25] at H; exact H) | (simp only [hji25] at H ⊢; exact H)
   have hji25w : (IntKind.i64.wrap (t208 + 1)) = ji25 := (i64_w _).trans hji25
   by_cases c26 : 0 ≤ (ji25)
   rotate_left
   ·rw [if_neg c26] at H
    exact absurd H (by simp)
   rw [if_pos c26] at H
   have c26b0 := eq_true c26
   have c26b1 : decide (0 ≤ (ji25)) = true := decide_eq_true c26
   clear c26
   by_cases c27 : (ji25) ≤ ((rd_L2 l0_1 t207).length : Int)
   rotate_left
   ·rw [if_neg c27] at H
    exact absurd H (by simp)
   rw [if_pos c27] at H
   have c27b0 := eq_true c27
   have c27b1 : decide ((ji25) ≤ ((rd_L2 l0_1 t207).length : Int)) = true := decide_eq_true c27
   clear c27
   have H' := Aside0.mk H
   clear H
   have hcz28_0 : wc.cell? ⟨gb201, 0, none⟩ = some (.int .i64 a0_0) := (blk_cell BK201.out 0).trans rfl
   have hcz28_1 : wc.cell? ⟨gb201, 1, none⟩ = some (.slice A0_1 l0_1.length c0_1) := (blk_cell BK201.out 1).trans rfl
   have hfz28_0 := blk_frozen BK201.out 0
   have hfz28_1 := blk_frozen BK201.out 1
   have p211 : 0 ≤ (t207 : Int) := oda
   have q211 : t207 < (l0_1.length : Int) := oda
   obtain ⟨ad211, A211_0, c211_0, e211, hx211_0, hl211_0, hi211_0⟩ := at_L2 HR0_1.out t207 p211 q211
   cases e211
   replace hx211_0 := cel HB hx211_0
   have HR211_0 := Aside0.mk hi211_0
   have HC211_0 := Aside0.mk hl211_0
   clear hi211_0 hl211_0
   replace p211 := eq_true p211
   replace q211 := eq_true q211
   obtain ⟨i029, hi029, _, hsz29, _⟩ := info_parts info3
   obtain ⟨A29, hcut29, hA29, hC29⟩ := print_drop_of (P := Try.prog) (Value.int .i64) 0 27 3 .i64 Try.underlying27 hi029 hsz29 A211_0 c211_0 (rd_L2 l0_1 t207) (ji25) (oda) (oda) HC211_0.out
   have HR212 := Aside0.mk (Kd.C_of_reads (h1 := fun _ => rfl) (hA29 _ (Kd.reads_of_C HR211_0.out)))
   have HC212 := Aside0.mk hC29
   clear hA29 hC29 hi029 hsz29
   go_wp2
   go_loopg [11, 49] kj13 (fun kq v11 v49 w' => ∃ (x11_3 : Int) (x49_3 : Int), v11 = .int .i64 x11_3 ∧ v49 = .int .i64 x49_3 ∧ Aside0 (impl_OverstowsOf.l1 kq l1 x6_1 x20_1 x11_3 l1 (l1.length : Int) x20_1 ((rd_L2 l0_1 t207).drop ((ji25) : Int).toNat) (((rd_L2 l0_1 t207).drop ((ji25) : Int).toNat).length : Int) x49_3 a0_0 l0_1 = some (r1, r2)) ∧ Aside0 (kq ≤ kj13) ∧ Aside0 (Kd.R (Kd.int .i64) 3 w' w.heap.size (fun _ => True) u6 x6_1) ∧ Aside0 (w'.heap[gb201]? = some (.cells #[.int .i64 a0_0, (.slice (some ad211) l0_1.length c0_1)] 26 (0, 0))) ∧ Aside0 (Below w.heap.size w w'))
   case atStart => exact ⟨(0), (0), (by first | rfl | (simp; done) | (simp [*]; done)), (by first | rfl | (simp; done) | (simp [*]; done)), H', ⟨Nat.le_refl _⟩, ⟨rdl HO_6⟩, ⟨bkl BK201⟩, ⟨bel1 HB GE201⟩⟩
   clear H'
   try clear c1
   try clear c2
   try clear p2
   try clear q2
   try clear hx2
   try clear c4
   try clear c6
   try clear p6
   try clear c10
   try clear c10b0
   try clear c11
   try clear c11b0
   try clear c12
   try clear c12b0
   try clear c15
   try clear c16
   try clear c17
   try clear c17b0
   try clear c18
   try clear c18b0
   try clear c19
   try clear c19b0
   try clear c19b1
   try clear p20
   try clear q20
   try clear hx20
   try clear c21
   try clear p21
   try clear q21
   try clear hx21
   try clear c22
   try clear c23
   try clear c23b0
   try clear c24
   try clear c24b0
   try clear c26
   try clear c26b0
   try clear c26b1
   try clear c27
   try clear c27b0
   try clear c27b1
   try clear hcz15_0
   try clear hcz15_1
   try clear hcz28_0
   try clear hcz28_1
   try clear hcz6_0
   try clear hcz6_1
   try clear hfz15_0
   try clear hfz15_1
   try clear hfz28_0
   try clear hfz28_1
   try clear hfz6_0
   try clear hfz6_1
   try clear hx206_0
   try clear hx211_0
   try clear p2
   try clear p20
   try clear p206
   try clear p211
   try clear q2
   try clear q20
   try clear q206
   try clear q211
   obtain ⟨x11_3, x49_3, rfl, rfl, HA, HK3, HO_6, BK201, HB⟩ := hrel
   cases gk with
   | zero => exact absurd HA.out (by simp [impl_OverstowsOf.l1])
   | succ k3 =>
    have H := HA.out
    clear HA
    simp only [impl_OverstowsOf.l1] at H
    by_cases c30 : x49_3 < (((rd_L2 l0_1 t207).drop ((ji25) : Int).toNat).length : Int)
    rotate_left
    ·rw [if_neg c30] at H
     have c30b0 : decide (x49_3 < (((rd_L2 l0_1 t207).drop ((ji25) : Int).toNat).length : Int)) = false := decide_eq_false c30
     have c30b7 : decide (x49_3 < ((((rd_L2 l0_1 t207)).length - (ji25 : Int).toNat : Nat) : Int)) = false := by have h_ := c30b0; rw [List.length_drop] at h_; exact h_
     have c30b8 : (x49_3 < ((((rd_L2 l0_1 t207)).length - (ji25 : Int).toNat : Nat) : Int)) = False := eq_false (of_decide_eq_false c30b7)
     have c30b9 : (((((rd_L2 l0_1 t207)).length - (ji25 : Int).toNat : Nat) : Int) ≤ x49_3) = True := eq_true (by have h_ := of_decide_eq_false c30b7; omega)
     clear c30
     by_cases c39 : x6_1.length < 17592186044416
     rotate_left
     ·rw [if_neg c39] at H
      exact absurd H (by simp)
     rw [if_pos c39] at H
     have LMc39 := Aside0.mk c39
     clear c39
     obtain ⟨y216, hy216⟩ : ∃ y_ : List Int, y_ = (x6_1 ++ [x11_3]) := ⟨_, rfl⟩
     replace H : (impl_OverstowsOf.l0 k3 l1 y216 l1 (l1.length : Int) (wrap64 (x20_1 + 1)) a0_0 l0_1) = some (r1, r2) := by first | (rw [hy216]; with_reducible exact H) | (have H2_ := (Option.bind_some _ _).symm.trans H; rw [hy216]; with_reducible exact H2_) | (have H2_ := (Option.bind_some _ _).symm.trans H; with_reducible exact H2_) | with_reducible exact H | (rw [hy216]; exact H) | exact H
     have Ny216 := Aside0.mk hy216
     clear hy216
     have H' := Aside0.mk H
     clear H
     go_wp2_with (first | ((with_reducible refine gate_builtin (b := .append) (xs := #[.tmp 62, .tmp 64]) rfl ?_); at_builtin; refine Kd.R_append (Kd.int .i64) (w0 := w) w.heap.size rfl (.tmp 62) (.tmp 64) 27 3 (.int .i64 0) 8 rfl Try.underlying27 info3 rfl (by decide) (by omega) u6 x6_1 x11_3 [.int .i64 x11_3] (fun _ => True) (fun _ => False) rfl rfl ?aP (fun _ hk => hk.elim) ?aF ?aO ?aB ?aS ?aL ?_; (case aP => exact rfl); (case aB => exact (bel1 HB GE201)); (case aF => exact (fun _ _ => trivial)); (case aO => exact (rdl HO_6)); (case aS => exact (below_size (bel1 HB GE201))); (case aL => have := LMc39.out; omega); intro v217 w40 ho hb hg hat; rw [← Ny216.out] at ho; have n0_ := Aside0.mk (blk_grown (g := gb201) (o := .cells #[.int .i64 a0_0, .slice (some ad211) l0_1.length c0_1] 26 (0, 0)) (bkl BK201) hg (Kd.R_ne HO_6.out BK201.out (by decide))); have n1_ := Aside0.mk (hb); have n2_ := Aside0.mk (ho); clear BK201; clear HB; clear HO_6; have BK201 := n0_; have HB := n1_; have HO218 := n2_; clear n0_ n1_ n2_; clear ho hb hg hat))
     go_roundg k3
     case measure => have := HK1.out; have := HJ13.out; have := HK3.out; omega
     case rel => exact ⟨(y216), (wrap64 (x20_1 + 1)), (by first | rfl | (simp; done) | (simp [*]; done)), H', ⟨by have := HK1.out; have := HJ13.out; have := HK3.out; omega⟩, ⟨rdl HO218⟩, ⟨bkl BK201⟩, ⟨bel1 HB GE201⟩⟩
    rw [if_pos c30] at H
    have c30b0 : decide (x49_3 < (((rd_L2 l0_1 t207).drop ((ji25) : Int).toNat).length : Int)) = true := decide_eq_true c30
    have c30b7 : decide (x49_3 < ((((rd_L2 l0_1 t207)).length - (ji25 : Int).toNat : Nat) : Int)) = true := by have h_ := c30b0; rw [List.length_drop] at h_; exact h_
    have c30b8 : (x49_3 < ((((rd_L2 l0_1 t207)).length - (ji25 : Int).toNat : Nat) : Int)) = True := eq_true (of_decide_eq_true c30b7)
    have c30b9 : (((((rd_L2 l0_1 t207)).length - (ji25 : Int).toNat : Nat) : Int) ≤ x49_3) = False := eq_false (fun h_ => absurd (of_eq_true c30b8) (by omega))
    clear c30
    by_cases c31 : 0 ≤ x49_3
    rotate_left
    ·rw [if_neg c31] at H
     exact absurd H (by simp)
    rw [if_pos c31] at H
    have c31b0 : decide (0 ≤ x49_3) = true := decide_eq_true c31
    clear c31
    by_cases c32 : x49_3 < (((rd_L2 l0_1 t207).drop ((ji25) : Int).toNat).length : Int)
    rotate_left
    ·rw [if_neg c32] at H
     exact absurd H (by simp)
    rw [if_pos c32] at H
    have c32b0 : decide (x49_3 < (((rd_L2 l0_1 t207).drop ((ji25) : Int).toNat).length : Int)) = true := decide_eq_true c32
    have c32b7 : decide (x49_3 < ((((rd_L2 l0_1 t207)).length - (ji25 : Int).toNat : Nat) : Int)) = true := by have h_ := c32b0; rw [List.length_drop] at h_; exact h_
    have c32b8 : (x49_3 < ((((rd_L2 l0_1 t207)).length - (ji25 : Int).toNat : Nat) : Int)) = True := eq_true (of_decide_eq_true c32b7)
    have c32b9 : (((((rd_L2 l0_1 t207)).length - (ji25 : Int).toNat : Nat) : Int) ≤ x49_3) = False := eq_false (fun h_ => absurd (of_eq_true c32b8) (by omega))
    clear c32
    by_cases c33 : 0 ≤ x20_1
    rotate_left
    ·rw [if_neg c33] at H
     exact absurd H (by simp)
    rw [if_pos c33] at H
    have c33b0 := eq_true c33
    have c33b1 : decide (0 ≤ x20_1) = true := decide_eq_true c33
    clear c33
    by_cases c34 : x20_1 ≤ (l1.length : Int)
    rotate_left
    ·rw [if_neg c34] at H
     exact absurd H (by simp)
    rw [if_pos c34] at H
    have c34b0 := eq_true c34
    have c34b1 : decide (x20_1 ≤ (l1.length : Int)) = true := decide_eq_true c34
    clear c34
    replace H := Option.bind_eq_some_iff.mp H
    obtain ⟨t215, A350, H⟩ := H
    replace H : (if t215 = true then (impl_OverstowsOf.l1 k3 l1 x6_1 x20_1 x11_3 l1 (l1.length : Int) x20_1 ((rd_L2 l0_1 t207).drop ((ji25) : Int).toNat) (((rd_L2 l0_1 t207).drop ((ji25) : Int).toNat).length : Int) (wrap64 (x49_3 + 1)) a0_0 l0_1) else (impl_OverstowsOf.l1 k3 l1 x6_1 x20_1 (wrap64 (x11_3 + 1)) l1 (l1.length : Int) x20_1 ((rd_L2 l0_1 t207).drop ((ji25) : Int).toNat) (((rd_L2 l0_1 t207).drop ((ji25) : Int).toNat).length : Int) (wrap64 (x49_3 + 1)) a0_0 l0_1)) = some (r1, r2) := H
    have A35 := Aside0.mk A350
    clear A350
    by_cases c36 : t215 = true
    ·subst c36
     have H1 : (impl_OverstowsOf.l1 k3 l1 x6_1 x20_1 x11_3 l1 (l1.length : Int) x20_1 ((rd_L2 l0_1 t207).drop ((ji25) : Int).toNat) (((rd_L2 l0_1 t207).drop ((ji25) : Int).toNat).length : Int) (wrap64 (x49_3 + 1)) a0_0 l0_1) = some (r1, r2) := by rw [if_pos rfl] at H; exact H
     clear H
     have H := H1
     clear H1
     have H' := Aside0.mk H
     clear H
     have p213 : 0 ≤ (x49_3 : Int) := oda
     have q213 : x49_3 < (((rd_L2 l0_1 t207).drop ((ji25) : Int).toNat).length : Int) := oda
     obtain ⟨ad213, e213, hx213_0⟩ := Kd.at_int HR212.out x49_3 p213 q213
     cases e213
     replace hx213_0 := cel HB hx213_0
     replace p213 := eq_true p213
     replace q213 := eq_true q213
     obtain ⟨i037, hi037, _, hsz37, _⟩ := info_parts info3
     obtain ⟨hcut37, hA37, hC37⟩ := print_take_of (P := Try.prog) (Value.int .i64) 0 27 3 .i64 Try.underlying27 hi037 hsz37 (some ad206) c1 l1 x20_1 (oda) (oda) HC1.out
     have HR214 := Aside0.mk (Kd.C_of_reads (h1 := fun _ => rfl) (hA37 _ (Kd.reads_of_C HR1.out)))
     have HC214 := Aside0.mk hC37
     clear hA37 hC37 hi037 hsz37
     go_wp2_with (first | ((with_reducible refine gate_callee (f := 17) rfl ?_); refine goesL_ (some 57) rfl rfl Try.func17 (by kernel_rfl) rfl #[.slice (some ad206) (l1.take (x20_1 : Int).toNat).length c1, .int .i64 (rd ((rd_L2 l0_1 t207).drop ((ji25) : Int).toNat) x49_3)] rfl (by (try simp only [List.map_toArray, List.map_cons, List.map_nil]); first | done | (rw [show (l1.take (x20_1 : Int).toNat).length = x20_1.toNat from (by rw [List.length_take]; have h_ : (x20_1 : Int) ≤ (l1.length : Int) := oda; omega)] <;> rfl) | (simp only [hji25]; rfl) | rfl | (simp only [List.length_drop, List.length_take]; rfl)) ?_; (with_reducible refine (slices_Contains_int_int.calls k3 _ _ (l1.take (x20_1 : Int).toNat) (rd ((rd_L2 l0_1 t207).drop ((ji25) : Int).toNat) x49_3) true _ ?side1 ?side2 A35.out).mono ?_); (case side1 => exact cdl (Kd.C_below HR214.out HB.out)); (case side2 => exact HC214.out); rintro e w' ⟨rfl, ⟨nd, rfl⟩⟩; refine ⟨_, rfl, ?_⟩))
     go_roundg k3
     case measure => have := HK1.out; have := HJ13.out; have := HK3.out; omega
     case rel => exact ⟨(x11_3), (wrap64 (x49_3 + 1)), (by first | rfl | (simp; done) | (simp [*]; done)), (by first | rfl | (simp; done) | (simp [*]; done)), H', ⟨by have := HK1.out; have := HJ13.out; have := HK3.out; omega⟩, ⟨rdl HO_6⟩, ⟨bkl BK201⟩, ⟨bel1 HB GE201⟩⟩
    replace c36 := Bool.eq_false_iff.mpr c36
    subst c36
    have H1 : (impl_OverstowsOf.l1 k3 l1 x6_1 x20_1 (wrap64 (x11_3 + 1)) l1 (l1.length : Int) x20_1 ((rd_L2 l0_1 t207).drop ((ji25) : Int).toNat) (((rd_L2 l0_1 t207).drop ((ji25) : Int).toNat).length : Int) (wrap64 (x49_3 + 1)) a0_0 l0_1) = some (r1, r2) := by rw [if_neg (show ¬ (false = true) by decide)] at H; exact H
    clear H
    have H := H1
    clear H1
    have H' := Aside0.mk H
    clear H
    have p213 : 0 ≤ (x49_3 : Int) := oda
    have q213 : x49_3 < (((rd_L2 l0_1 t207).drop ((ji25) : Int).toNat).length : Int) := oda
    obtain ⟨ad213, e213, hx213_0⟩ := Kd.at_int HR212.out x49_3 p213 q213
    cases e213
    replace hx213_0 := cel HB hx213_0
    replace p213 := eq_true p213
    replace q213 := eq_true q213
    obtain ⟨i038, hi038, _, hsz38, _⟩ := info_parts info3
    obtain ⟨hcut38, hA38, hC38⟩ := print_take_of (P := Try.prog) (Value.int .i64) 0 27 3 .i64 Try.underlying27 hi038 hsz38 (some ad206) c1 l1 x20_1 (oda) (oda) HC1.out
    have HR214 := Aside0.mk (Kd.C_of_reads (h1 := fun _ => rfl) (hA38 _ (Kd.reads_of_C HR1.out)))
    have HC214 := Aside0.mk hC38
    clear hA38 hC38 hi038 hsz38
    go_wp2_with (first | ((with_reducible refine gate_callee (f := 17) rfl ?_); refine goesL_ (some 57) rfl rfl Try.func17 (by kernel_rfl) rfl #[.slice (some ad206) (l1.take (x20_1 : Int).toNat).length c1, .int .i64 (rd ((rd_L2 l0_1 t207).drop ((ji25) : Int).toNat) x49_3)] rfl (by (try simp only [List.map_toArray, List.map_cons, List.map_nil]); first | done | (rw [show (l1.take (x20_1 : Int).toNat).length = x20_1.toNat from (by rw [List.length_take]; have h_ : (x20_1 : Int) ≤ (l1.length : Int) := oda; omega)] <;> rfl) | (simp only [hji25]; rfl) | rfl | (simp only [List.length_drop, List.length_take]; rfl)) ?_; (with_reducible refine (slices_Contains_int_int.calls k3 _ _ (l1.take (x20_1 : Int).toNat) (rd ((rd_L2 l0_1 t207).drop ((ji25) : Int).toNat) x49_3) false _ ?side1 ?side2 A35.out).mono ?_); (case side1 => exact cdl (Kd.C_below HR214.out HB.out)); (case side2 => exact HC214.out); rintro e w' ⟨rfl, ⟨nd, rfl⟩⟩; refine ⟨_, rfl, ?_⟩))
    go_roundg k3
    case measure => have := HK1.out; have := HJ13.out; have := HK3.out; omega
    case rel => exact ⟨(wrap64 (x11_3 + 1)), (wrap64 (x49_3 + 1)), (by first | rfl | (simp; done) | (simp [*]; done)), (by first | rfl | (simp; done) | (simp [*]; done)), H', ⟨by have := HK1.out; have := HJ13.out; have := HK3.out; omega⟩, ⟨rdl HO_6⟩, ⟨bkl BK201⟩, ⟨bel1 HB GE201⟩⟩
/-! ### spec_l1In: function 31 -/
def spec_l1In.f (a0 : Int) (a1 : Int) (a2 : Int) : Option (Bool) := if a0 ≥ a1 then (some (decide (a0 ≤ a2))) else (some false)
set_option maxHeartbeats 8000000 in
set_option maxRecDepth 100000 in
theorem spec_l1In.calls (a0 : Int) (a1 : Int) (a2 : Int) (r : Bool) (w : World) (h : spec_l1In.f a0 a1 a2 = some r) :
  Calls Try.prog 31 #[.int .i64 a0, .int .i64 a1, .int .i64 a2] w fun e w' => e = .returned (.bool r) ∧ Drawn0 w w' := by
 have H : (if a0 ≥ a1 then (some (decide (a0 ≤ a2))) else (some false)) = some r := h
 clear h
 by_cases c4 : a0 ≥ a1
 ·rw [if_pos c4] at H
  have c4b0 : decide (a1 ≤ a0) = true := decide_eq_true c4
  clear c4
  obtain rfl := Option.some.inj H
  go_enter Try.func31, Try.ntmps31
  go_wp2
  go_ret
  exact ⟨by first | rfl | (simp; done) | (simp [*]; done), by repeat (first | exact Drawn0.refl _ | apply Drawn0.step)⟩
 rw [if_neg c4] at H
 have c4b0 : decide (a1 ≤ a0) = false := decide_eq_false c4
 clear c4
 obtain rfl := Option.some.inj H
 go_enter Try.func31, Try.ntmps31
 go_wp2
 go_ret
 exact ⟨by first | rfl | (simp; done) | (simp [*]; done), by repeat (first | exact Drawn0.refl _ | apply Drawn0.step)⟩
/-! ### spec_l1Has: function 32 -/
def spec_l1Has.l0 : Nat → List Int → Int → Int → Option (Bool)
 | 0, _, _, _ => none
 | k + 1, x0, x1, x5 => if x5 < (x0.length : Int) then (if 0 ≤ x5 then (if (rd x0 x5) = x1 then (some true) else (spec_l1Has.l0 k x0 x1 (wrap64 (x5 + 1)))) else (none)) else (some false)
def spec_l1Has.f (k : Nat) (l0 : List Int) (a1 : Int) : Option (Bool) := spec_l1Has.l0 k l0 a1 0
theorem spec_l1Has.mono_l : ∀ k, (∀ y0 y1 y2, LeO (spec_l1Has.l0 k y0 y1 y2) (spec_l1Has.l0 (k + 1) y0 y1 y2))
 | 0 => fun _ _ _ r h => by simp [spec_l1Has.l0] at h
 | k + 1 => by
  have ih0 := spec_l1Has.mono_l k
  ·intro y0 y1 y2
   unfold spec_l1Has.l0
   repeat' first
   | (with_reducible exact ih0 _ _ _)
   | (with_reducible exact LeO.refl _)
   | (with_reducible exact LeO.none _)
   | (with_reducible refine LeO.ite ?_ ?_)
   | (with_reducible refine LeO.bind ?_ (fun _ => ?_))
   | exact ih0 _ _ _
   | exact LeO.none _
   | refine LeO.ite ?_ ?_
   | refine LeO.bind ?_ (fun _ => ?_)
theorem spec_l1Has.mono : ∀ a0 a1 k, LeO (spec_l1Has.f k a0 a1) (spec_l1Has.f (k + 1) a0 a1) := by
 intro a0 a1 k
 have ih0 := spec_l1Has.mono_l k
 unfold spec_l1Has.f
 repeat' first
   | (with_reducible exact ih0 _ _ _)
   | (with_reducible exact LeO.refl _)
   | (with_reducible exact LeO.none _)
   | (with_reducible refine LeO.ite ?_ ?_)
   | (with_reducible refine LeO.bind ?_ (fun _ => ?_))
   | exact ih0 _ _ _
   | exact LeO.none _
   | refine LeO.ite ?_ ?_
   | refine LeO.bind ?_ (fun _ => ?_)
set_option maxHeartbeats 8000000 in
set_option maxRecDepth 100000 in
theorem spec_l1Has.calls (k : Nat) (A0 : Option Addr) (c0 : Nat) (l0 : List Int) (a1 : Int) (r : Bool) (w : World) (hr0 : Kd.C (Kd.int .i64) w A0 l0.length l0) (hc0 : l0.length ≤ c0) (h : spec_l1Has.f k l0 a1 = some r) :
  Calls Try.prog 32 #[.slice A0 l0.length c0, .int .i64 a1] w fun e w' => e = .returned (.bool r) ∧ Drawn0 w w' := by
 have HR0 := Aside0.mk hr0
 have HC0 := Aside0.mk hc0
 clear hr0 hc0
 have H : (spec_l1Has.l0 k l0 a1 0) = some r := h
 clear h
 have H' := Aside0.mk H
 clear H
 go_enter Try.func32, Try.ntmps32
 go_wp2
 go_loopg [5] k (fun kq v5 w' => ∃ (x5_1 : Int), v5 = .int .i64 x5_1 ∧ Aside0 (spec_l1Has.l0 kq l0 a1 x5_1 = some r) ∧ Aside0 (kq ≤ k) ∧ Drawn0 w w')
 case atStart => exact ⟨(0), (by first | rfl | (simp; done) | (simp [*]; done)), H', ⟨Nat.le_refl _⟩, by repeat (first | exact Drawn0.refl _ | apply Drawn0.step)⟩
 clear H'
 try clear p2
 obtain ⟨x5_1, rfl, HA, HK1, ⟨m1, rfl⟩⟩ := hrel
 cases gk with
 | zero => exact absurd HA.out (by simp [spec_l1Has.l0])
 | succ k1 =>
  have H := HA.out
  clear HA
  simp only [spec_l1Has.l0] at H
  by_cases c3 : x5_1 < (l0.length : Int)
  rotate_left
  ·rw [if_neg c3] at H
   have c3b0 : decide (x5_1 < (l0.length : Int)) = false := decide_eq_false c3
   clear c3
   obtain rfl := Option.some.inj H
   go_wp2
   go_ret
   exact ⟨by first | rfl | (simp; done) | (simp [*]; done), by repeat (first | exact Drawn0.refl _ | apply Drawn0.step)⟩
  rw [if_pos c3] at H
  have c3b0 : decide (x5_1 < (l0.length : Int)) = true := decide_eq_true c3
  clear c3
  by_cases c4 : 0 ≤ x5_1
  rotate_left
  ·rw [if_neg c4] at H
   exact absurd H (by simp)
  rw [if_pos c4] at H
  have c4b0 : decide (0 ≤ x5_1) = true := decide_eq_true c4
  clear c4
  by_cases c5 : (rd l0 x5_1) = a1
  ·rw [if_pos c5] at H
   have c5b0 : ((rd l0 x5_1) == a1) = true := beq_iff_eq.mpr c5
   have c5b1 : ((rd l0 x5_1) != a1) = false := bne_eq_false_iff_eq.mpr c5
   clear c5
   obtain rfl := Option.some.inj H
   have p219 : 0 ≤ (x5_1 : Int) := oda
   have q219 : x5_1 < (l0.length : Int) := oda
   obtain ⟨ad219, e219, hx219_0⟩ := Kd.at_int HR0.out x5_1 p219 q219
   cases e219
   replace p219 := eq_true p219
   replace q219 := eq_true q219
   go_wp2
   go_ret
   exact ⟨by first | rfl | (simp; done) | (simp [*]; done), by repeat (first | exact Drawn0.refl _ | apply Drawn0.step)⟩
  rw [if_neg c5] at H
  have c5b0 : ((rd l0 x5_1) == a1) = false := beq_eq_false_iff_ne.mpr c5
  have c5b1 : ((rd l0 x5_1) != a1) = true := bne_iff_ne.mpr c5
  have H' := Aside0.mk H
  clear H
  have p219 : 0 ≤ (x5_1 : Int) := oda
  have q219 : x5_1 < (l0.length : Int) := oda
  obtain ⟨ad219, e219, hx219_0⟩ := Kd.at_int HR0.out x5_1 p219 q219
  cases e219
  replace p219 := eq_true p219
  replace q219 := eq_true q219
  go_wp2
  go_roundg k1
  case measure => have := HK1.out; omega
  case rel => exact ⟨(wrap64 (x5_1 + 1)), (by first | rfl | (simp; done) | (simp [*]; done)), H', ⟨by have := HK1.out; omega⟩, by repeat (first | exact Drawn0.refl _ | apply Drawn0.step)⟩
end Go.Proofs.Ytdooakhjaffcdaa.P
