-- Written by a program of this session over the translation (a variant of the printer, see wip/gen); Lean checks it.
import Derived.Test.YtmggkimmnekhcaaPx0
import Derived.Test.YtmggkimmnekhcaaPx7
import Derived.Test.YtmggkimmnekhcaaPx11
namespace Go.Proofs.Ytmggkimmnekhcaa.P
open Go.RowKit Go.Proofs.YtmggkimmnekhcaaW.PrintWords Go.Proofs.YtmggkimmnekhcaaW.PrintLast Go.Proofs.YtmggkimmnekhcaaW.PrintMore
attribute [local go_sem] Go.Proofs.Ytmggkimmnekhcaa.V.isSome_setCell max2_int min2_int max_two min_two max_three min_three max_four min_four
set_option linter.unusedVariables false
set_option linter.unusedSimpArgs false
/-! ### spec_WorstBox: function 12 -/
mutual
def spec_WorstBox.l0 : Nat → Int → Int → Int → List (List Int) → Option (Int × Int × Bool)
 | 0, _, _, _, _ => none
 | k + 1, x5, x6, x7, x350000 => if x7 < (x350000.length : Int) then (spec_WorstBox.l1 k x5 x6 x7 0 x350000) else (some (x5, x6, decide (x6 > 0)))
def spec_WorstBox.l1 : Nat → Int → Int → Int → Int → List (List Int) → Option (Int × Int × Bool)
 | 0, _, _, _, _, _ => none
 | k + 1, x5, x6, x7, x8, x350000 => if 0 ≤ x7 then (if x7 < (x350000.length : Int) then (if x8 < ((rd_L2 x350000 x7).length : Int) then ((spec_l8Below.f k (rd_L2 x350000 x7) x8).bind fun t353 => (if t353 > x6 then (if 0 ≤ x8 then (spec_WorstBox.l1 k (rd (rd_L2 x350000 x7) x8) t353 x7 (wrap64 (x8 + 1)) x350000) else (none)) else (if t353 = x6 then (if t353 > 0 then (if 0 ≤ x8 then (if (rd (rd_L2 x350000 x7) x8) < x5 then (spec_WorstBox.l1 k (rd (rd_L2 x350000 x7) x8) t353 x7 (wrap64 (x8 + 1)) x350000) else (spec_WorstBox.l1 k x5 x6 x7 (wrap64 (x8 + 1)) x350000)) else (none)) else (spec_WorstBox.l1 k x5 x6 x7 (wrap64 (x8 + 1)) x350000)) else (spec_WorstBox.l1 k x5 x6 x7 (wrap64 (x8 + 1)) x350000)))) else (spec_WorstBox.l0 k x5 x6 (wrap64 (x7 + 1)) x350000)) else (none)) else (none)
end
def spec_WorstBox.f (k : Nat) (l0_0 : List (List Int)) : Option (Int × Int × Bool) := (spec_l5Good.f k l0_0).bind fun t350 => (if t350 = true then (spec_WorstBox.l0 k 0 0 0 l0_0) else (some (0, 0, false)))
theorem spec_WorstBox.mono_l : ∀ k, (∀ y0 y1 y2 y3, LeO (spec_WorstBox.l0 k y0 y1 y2 y3) (spec_WorstBox.l0 (k + 1) y0 y1 y2 y3)) ∧ (∀ y0 y1 y2 y3 y4, LeO (spec_WorstBox.l1 k y0 y1 y2 y3 y4) (spec_WorstBox.l1 (k + 1) y0 y1 y2 y3 y4))
 | 0 => ⟨fun _ _ _ _ r h => by simp [spec_WorstBox.l0] at h, fun _ _ _ _ _ r h => by simp [spec_WorstBox.l1] at h⟩
 | k + 1 => by
  obtain ⟨ih0, ih1⟩ := spec_WorstBox.mono_l k
  refine ⟨?_, ?_⟩
  ·intro y0 y1 y2 y3
   unfold spec_WorstBox.l0
   repeat' first
   | (with_reducible exact ih0 _ _ _ _)
   | (with_reducible exact ih1 _ _ _ _ _)
   | (with_reducible exact spec_l5Good.mono _ _)
   | (with_reducible exact spec_l8Below.mono _ _ _)
   | (with_reducible exact LeO.refl _)
   | (with_reducible exact LeO.none _)
   | (with_reducible refine LeO.ite ?_ ?_)
   | (with_reducible refine LeO.bind ?_ (fun _ => ?_))
   | exact ih0 _ _ _ _
   | exact ih1 _ _ _ _ _
   | exact spec_l5Good.mono _ _
   | exact spec_l8Below.mono _ _ _
   | exact LeO.none _
   | refine LeO.ite ?_ ?_
   | refine LeO.bind ?_ (fun _ => ?_)
  ·intro y0 y1 y2 y3 y4
   unfold spec_WorstBox.l1
   repeat' first
   | (with_reducible exact ih0 _ _ _ _)
   | (with_reducible exact ih1 _ _ _ _ _)
   | (with_reducible exact spec_l5Good.mono _ _)
   | (with_reducible exact spec_l8Below.mono _ _ _)
   | (with_reducible exact LeO.refl _)
   | (with_reducible exact LeO.none _)
   | (with_reducible refine LeO.ite ?_ ?_)
   | (with_reducible refine LeO.bind ?_ (fun _ => ?_))
   | exact ih0 _ _ _ _
   | exact ih1 _ _ _ _ _
   | exact spec_l5Good.mono _ _
   | exact spec_l8Below.mono _ _ _
   | exact LeO.none _
   | refine LeO.ite ?_ ?_
   | refine LeO.bind ?_ (fun _ => ?_)
theorem spec_WorstBox.mono : ∀ a0 k, LeO (spec_WorstBox.f k a0) (spec_WorstBox.f (k + 1) a0) := by
 intro a0 k
 obtain ⟨ih0, ih1⟩ := spec_WorstBox.mono_l k
 unfold spec_WorstBox.f
 repeat' first
   | (with_reducible exact ih0 _ _ _ _)
   | (with_reducible exact ih1 _ _ _ _ _)
   | (with_reducible exact spec_l5Good.mono _ _)
   | (with_reducible exact spec_l8Below.mono _ _ _)
   | (with_reducible exact LeO.refl _)
   | (with_reducible exact LeO.none _)
   | (with_reducible refine LeO.ite ?_ ?_)
   | (with_reducible refine LeO.bind ?_ (fun _ => ?_))
   | exact ih0 _ _ _ _
   | exact ih1 _ _ _ _ _
   | exact spec_l5Good.mono _ _
   | exact spec_l8Below.mono _ _ _
   | exact LeO.none _
   | refine LeO.ite ?_ ?_
   | refine LeO.bind ?_ (fun _ => ?_)
set_option maxHeartbeats 8000000 in
set_option maxRecDepth 100000 in
theorem spec_WorstBox.calls (k : Nat) (A0_0 : Option Addr) (c0_0 : Nat) (l0_0 : List (List Int)) (r1 : Int) (r2 : Int) (r3 : Bool) (w : World) (hr0_0 : Kd.C (Kd.slice 3 (Kd.int .i64)) w A0_0 l0_0.length l0_0) (hc0_0 : l0_0.length ≤ c0_0) (h : spec_WorstBox.f k l0_0 = some (r1, r2, r3)) :
  Calls Try.prog 12 #[.agg #[.slice A0_0 l0_0.length c0_0]] w fun e w' => e = .returned (.tuple #[.int .i64 r1, .int .i64 r2, .bool r3]) ∧ Below w.heap.size w w' := by
 have hu26 := Try.underlying26
 have HR0_0 := Aside0.mk hr0_0
 have HC0_0 := Aside0.mk hc0_0
 clear hr0_0 hc0_0
 have HB := Aside0.mk (Below.refl w.heap.size w)
 have H : ((spec_l5Good.f k l0_0).bind fun t350 => (if t350 = true then (spec_WorstBox.l0 k 0 0 0 l0_0) else (some (0, 0, false)))) = some (r1, r2, r3) := h
 clear h
 replace H := Option.bind_eq_some_iff.mp H
 obtain ⟨t350, A20, H⟩ := H
 replace H : (if t350 = true then (spec_WorstBox.l0 k 0 0 0 l0_0) else (some (0, 0, false))) = some (r1, r2, r3) := H
 have A2 := Aside0.mk A20
 clear A20
 by_cases c3 : t350 = true
 rotate_left
 ·replace c3 := Bool.eq_false_iff.mpr c3
  subst c3
  have H1 : (some (0, 0, false)) = some (r1, r2, r3) := by rw [if_neg (show ¬ (false = true) by decide)] at H; exact H
  clear H
  have H := H1
  clear H1
  simp only [Option.some.injEq, Prod.mk.injEq] at H
  obtain ⟨rfl, rfl, rfl⟩ := H
  go_enter Try.func12, Try.ntmps12
  go_wp2_with (first | ((with_reducible refine gate_dst (N := 1) rfl ?_); refine box_event ?hg (N := 1) ?hd (cs := #[.slice A0_0 l0_0.length c0_0]) (t := 26) ?hr ?_; (case hd => rfl); (case hg => rfl); (case hr => first | (go_simp; done) | (go_simp; rfl)); intro gb349 hg w26 hbox hb; have n0_ := Aside0.mk (below_step (bel HB) hb); have n1_ := Aside0.mk (hbox); have n2_ := Aside0.mk ((by rw [hg]; exact (below_size (bel HB)) : w.heap.size ≤ gb349)); have n3_ := Aside0.mk ((by rw [hg]; exact (below_size (bel HB)) : w.heap.size ≤ gb349)); clear HB; have HB := n0_; have BK349 := n1_; have GW349 := n2_; have GE349 := n3_; clear n0_ n1_ n2_ n3_; clear hb hbox hg; have hcz27_0 : w26.cell? ⟨gb349, 0, none⟩ = some (.slice A0_0 l0_0.length c0_0) := (blk_cell BK349.out 0).trans rfl; have hfz27_0 := blk_frozen BK349.out 0) | ((with_reducible refine gate_callee (f := 30) rfl ?_); refine goesL_ (some 11) rfl rfl Try.func30 (by kernel_rfl) rfl #[.agg #[.slice A0_0 l0_0.length c0_0]] rfl gmp ?_; (with_reducible refine (spec_l5Good.calls k _ _ l0_0 false _ ?side1 ?side2 A2.out).mono ?_); (case side1 => exact cdl (Kd.C_below HR0_0.out HB.out)); (case side2 => exact HC0_0.out); rintro e w28 ⟨rfl, hb⟩; refine ⟨_, rfl, ?_⟩; have n0_ := Aside0.mk (blk_below (g := gb349) (o := .cells #[.slice A0_0 l0_0.length c0_0] 26 (0, 0)) (bkl BK349) hb); have n1_ := Aside0.mk (below_step (bel1 HB GE349) hb); clear BK349; clear HB; have BK349 := n0_; have HB := n1_; clear n0_ n1_; (try clear hb); (try clear hb2); (try clear hk); (try clear hi)))
  go_ret3
  exact ⟨by first | rfl | (simp [errW_none, errW_some] <;> rfl) | (simp [*, errW_none, errW_some] <;> rfl), bel1 HB GE349⟩
 subst c3
 have H1 : (spec_WorstBox.l0 k 0 0 0 l0_0) = some (r1, r2, r3) := by rw [if_pos rfl] at H; exact H
 clear H
 have H := H1
 clear H1
 have H' := Aside0.mk H
 clear H
 go_enter Try.func12, Try.ntmps12
 go_wp2_with (first | ((with_reducible refine gate_dst (N := 1) rfl ?_); refine box_event ?hg (N := 1) ?hd (cs := #[.slice A0_0 l0_0.length c0_0]) (t := 26) ?hr ?_; (case hd => rfl); (case hg => rfl); (case hr => first | (go_simp; done) | (go_simp; rfl)); intro gb349 hg w4 hbox hb; have n0_ := Aside0.mk (below_step (bel HB) hb); have n1_ := Aside0.mk (hbox); have n2_ := Aside0.mk ((by rw [hg]; exact (below_size (bel HB)) : w.heap.size ≤ gb349)); have n3_ := Aside0.mk ((by rw [hg]; exact (below_size (bel HB)) : w.heap.size ≤ gb349)); clear HB; have HB := n0_; have BK349 := n1_; have GW349 := n2_; have GE349 := n3_; clear n0_ n1_ n2_ n3_; clear hb hbox hg; have hcz5_0 : w4.cell? ⟨gb349, 0, none⟩ = some (.slice A0_0 l0_0.length c0_0) := (blk_cell BK349.out 0).trans rfl; have hfz5_0 := blk_frozen BK349.out 0) | ((with_reducible refine gate_callee (f := 30) rfl ?_); refine goesL_ (some 11) rfl rfl Try.func30 (by kernel_rfl) rfl #[.agg #[.slice A0_0 l0_0.length c0_0]] rfl gmp ?_; (with_reducible refine (spec_l5Good.calls k _ _ l0_0 true _ ?side1 ?side2 A2.out).mono ?_); (case side1 => exact cdl (Kd.C_below HR0_0.out HB.out)); (case side2 => exact HC0_0.out); rintro e w6 ⟨rfl, hb⟩; refine ⟨_, rfl, ?_⟩; have n0_ := Aside0.mk (blk_below (g := gb349) (o := .cells #[.slice A0_0 l0_0.length c0_0] 26 (0, 0)) (bkl BK349) hb); have n1_ := Aside0.mk (below_step (bel1 HB GE349) hb); clear BK349; clear HB; have BK349 := n0_; have HB := n1_; clear n0_ n1_; (try clear hb); (try clear hb2); (try clear hk); (try clear hi)))
 go_loopg [5, 6, 7] k (fun kq v5 v6 v7 w' => ∃ (x5_1 : Int) (x6_1 : Int) (x7_1 : Int), v5 = .int .i64 x5_1 ∧ v6 = .int .i64 x6_1 ∧ v7 = .int .i64 x7_1 ∧ Aside0 (spec_WorstBox.l0 kq x5_1 x6_1 x7_1 l0_0 = some (r1, r2, r3)) ∧ Aside0 (kq ≤ k) ∧ Aside0 (w'.heap[gb349]? = some (.cells #[(.slice A0_0 l0_0.length c0_0)] 26 (0, 0))) ∧ Aside0 (Below w.heap.size w w'))
 case atStart => exact ⟨(0), (0), (0), (by first | rfl | (simp; done) | (simp [*]; done)), (by first | rfl | (simp; done) | (simp [*]; done)), (by first | rfl | (simp; done) | (simp [*]; done)), H', ⟨Nat.le_refl _⟩, ⟨bkl BK349⟩, ⟨bel1 HB GE349⟩⟩
 clear H'
 try clear c1
 try clear p2
 try clear c3
 try clear hcz5_0
 try clear hfz5_0
 obtain ⟨x5_1, x6_1, x7_1, rfl, rfl, rfl, HA, HK1, BK349, HB⟩ := hrel
 cases gk with
 | zero => exact absurd HA.out (by simp [spec_WorstBox.l0])
 | succ k1 =>
  have H := HA.out
  clear HA
  simp only [spec_WorstBox.l0] at H
  by_cases c7 : x7_1 < (l0_0.length : Int)
  rotate_left
  ·rw [if_neg c7] at H
   have c7b0 : decide (x7_1 < (l0_0.length : Int)) = false := decide_eq_false c7
   clear c7
   simp only [Option.some.injEq, Prod.mk.injEq] at H
   obtain ⟨rfl, rfl, rfl⟩ := H
   have hcz25_0 : wr.cell? ⟨gb349, 0, none⟩ = some (.slice A0_0 l0_0.length c0_0) := (blk_cell BK349.out 0).trans rfl
   have hfz25_0 := blk_frozen BK349.out 0
   go_wp2
   go_ret3
   exact ⟨by first | rfl | (simp [errW_none, errW_some] <;> rfl) | (simp [*, errW_none, errW_some] <;> rfl), bel1 HB GE349⟩
  rw [if_pos c7] at H
  have c7b0 : decide (x7_1 < (l0_0.length : Int)) = true := decide_eq_true c7
  clear c7
  have H' := Aside0.mk H
  clear H
  have hcz8_0 : wr.cell? ⟨gb349, 0, none⟩ = some (.slice A0_0 l0_0.length c0_0) := (blk_cell BK349.out 0).trans rfl
  have hfz8_0 := blk_frozen BK349.out 0
  go_wp2
  go_loopg [5, 6, 8] k1 (fun kq v5 v6 v8 w' => ∃ (x5_2 : Int) (x6_2 : Int) (x8_2 : Int), v5 = .int .i64 x5_2 ∧ v6 = .int .i64 x6_2 ∧ v8 = .int .i64 x8_2 ∧ Aside0 (spec_WorstBox.l1 kq x5_2 x6_2 x7_1 x8_2 l0_0 = some (r1, r2, r3)) ∧ Aside0 (kq ≤ k1) ∧ Aside0 (w'.heap[gb349]? = some (.cells #[(.slice A0_0 l0_0.length c0_0)] 26 (0, 0))) ∧ Aside0 (Below w.heap.size w w'))
  case atStart => exact ⟨(x5_1), (x6_1), (0), (by first | rfl | (simp; done) | (simp [*]; done)), (by first | rfl | (simp; done) | (simp [*]; done)), (by first | rfl | (simp; done) | (simp [*]; done)), H', ⟨Nat.le_refl _⟩, ⟨bkl BK349⟩, ⟨bel1 HB GE349⟩⟩
  clear H'
  try clear c1
  try clear p2
  try clear c3
  try clear c7
  try clear c7b0
  try clear hcz5_0
  try clear hcz8_0
  try clear hfz5_0
  try clear hfz8_0
  try clear p2
  obtain ⟨x5_2, x6_2, x8_2, rfl, rfl, rfl, HA, HK2, BK349, HB⟩ := hrel
  cases gk with
  | zero => exact absurd HA.out (by simp [spec_WorstBox.l1])
  | succ k2 =>
   have H := HA.out
   clear HA
   simp only [spec_WorstBox.l1] at H
   by_cases c9 : 0 ≤ x7_1
   rotate_left
   ·rw [if_neg c9] at H
    exact absurd H (by simp)
   rw [if_pos c9] at H
   have c9b0 : decide (0 ≤ x7_1) = true := decide_eq_true c9
   clear c9
   by_cases c10 : x7_1 < (l0_0.length : Int)
   rotate_left
   ·rw [if_neg c10] at H
    exact absurd H (by simp)
   rw [if_pos c10] at H
   have c10b0 : decide (x7_1 < (l0_0.length : Int)) = true := decide_eq_true c10
   clear c10
   by_cases c11 : x8_2 < ((rd_L2 l0_0 x7_1).length : Int)
   rotate_left
   ·rw [if_neg c11] at H
    have c11b0 : decide (x8_2 < ((rd_L2 l0_0 x7_1).length : Int)) = false := decide_eq_false c11
    clear c11
    have H' := Aside0.mk H
    clear H
    have hcz24_0 : wr.cell? ⟨gb349, 0, none⟩ = some (.slice A0_0 l0_0.length c0_0) := (blk_cell BK349.out 0).trans rfl
    have hfz24_0 := blk_frozen BK349.out 0
    have p351 : 0 ≤ (x7_1 : Int) := oda
    have q351 : x7_1 < (l0_0.length : Int) := oda
    obtain ⟨ad351, A351_0, c351_0, e351, hx351_0, hl351_0, hi351_0⟩ := at_L2 HR0_0.out x7_1 p351 q351
    cases e351
    replace hx351_0 := cel HB hx351_0
    have HR351_0 := Aside0.mk hi351_0
    have HC351_0 := Aside0.mk hl351_0
    clear hi351_0 hl351_0
    replace p351 := eq_true p351
    replace q351 := eq_true q351
    go_wp2
    go_roundg k2
    case measure => have := HK1.out; have := HK2.out; omega
    case rel => exact ⟨(x5_2), (x6_2), (wrap64 (x7_1 + 1)), (by first | rfl | (simp; done) | (simp [*]; done)), (by first | rfl | (simp; done) | (simp [*]; done)), (by first | rfl | (simp; done) | (simp [*]; done)), H', ⟨by have := HK1.out; have := HK2.out; omega⟩, ⟨bkl BK349⟩, ⟨bel1 HB GE349⟩⟩
   rw [if_pos c11] at H
   have c11b0 : decide (x8_2 < ((rd_L2 l0_0 x7_1).length : Int)) = true := decide_eq_true c11
   clear c11
   replace H := Option.bind_eq_some_iff.mp H
   obtain ⟨t353, A120, H⟩ := H
   replace H : (if t353 > x6_2 then (if 0 ≤ x8_2 then (spec_WorstBox.l1 k2 (rd (rd_L2 l0_0 x7_1) x8_2) t353 x7_1 (wrap64 (x8_2 + 1)) l0_0) else (none)) else (if t353 = x6_2 then (if t353 > 0 then (if 0 ≤ x8_2 then (if (rd (rd_L2 l0_0 x7_1) x8_2) < x5_2 then (spec_WorstBox.l1 k2 (rd (rd_L2 l0_0 x7_1) x8_2) t353 x7_1 (wrap64 (x8_2 + 1)) l0_0) else (spec_WorstBox.l1 k2 x5_2 x6_2 x7_1 (wrap64 (x8_2 + 1)) l0_0)) else (none)) else (spec_WorstBox.l1 k2 x5_2 x6_2 x7_1 (wrap64 (x8_2 + 1)) l0_0)) else (spec_WorstBox.l1 k2 x5_2 x6_2 x7_1 (wrap64 (x8_2 + 1)) l0_0))) = some (r1, r2, r3) := H
   have A12 := Aside0.mk A120
   clear A120
   by_cases c13 : t353 > x6_2
   ·rw [if_pos c13] at H
    have c13b0 : decide (x6_2 < t353) = true := decide_eq_true c13
    clear c13
    by_cases c14 : 0 ≤ x8_2
    rotate_left
    ·rw [if_neg c14] at H
     exact absurd H (by simp)
    rw [if_pos c14] at H
    have c14b0 : decide (0 ≤ x8_2) = true := decide_eq_true c14
    clear c14
    have H' := Aside0.mk H
    clear H
    have hcz15_0 : wr.cell? ⟨gb349, 0, none⟩ = some (.slice A0_0 l0_0.length c0_0) := (blk_cell BK349.out 0).trans rfl
    have hfz15_0 := blk_frozen BK349.out 0
    have p351 : 0 ≤ (x7_1 : Int) := oda
    have q351 : x7_1 < (l0_0.length : Int) := oda
    obtain ⟨ad351, A351_0, c351_0, e351, hx351_0, hl351_0, hi351_0⟩ := at_L2 HR0_0.out x7_1 p351 q351
    cases e351
    replace hx351_0 := cel HB hx351_0
    have HR351_0 := Aside0.mk hi351_0
    have HC351_0 := Aside0.mk hl351_0
    clear hi351_0 hl351_0
    replace p351 := eq_true p351
    replace q351 := eq_true q351
    have p352 : 0 ≤ (x7_1 : Int) := oda
    have q352 : x7_1 < (l0_0.length : Int) := oda
    obtain ⟨ad352, A352_0, c352_0, e352, hx352_0, hl352_0, hi352_0⟩ := at_L2 HR0_0.out x7_1 p352 q352
    obtain rfl : ad351 = ad352 := (by injection e352)
    replace hx352_0 := cel HB hx352_0
    have HR352_0 := Aside0.mk hi352_0
    have HC352_0 := Aside0.mk hl352_0
    clear hi352_0 hl352_0
    replace p352 := eq_true p352
    replace q352 := eq_true q352
    have ea_ := Option.some.inj (hx351_0.symm.trans hx352_0)
    injection ea_ with ea_ en_ ec_
    subst ea_
    subst ec_
    clear en_
    go_wp2_with (first | ((with_reducible refine gate_callee (f := 33) rfl ?_); refine goesL_ (some 36) rfl rfl Try.func33 (by kernel_rfl) rfl #[.slice A351_0 (rd_L2 l0_0 x7_1).length c351_0, .int .i64 x8_2] rfl gmp ?_; (with_reducible refine (spec_l8Below.calls k2 _ _ (rd_L2 l0_0 x7_1) x8_2 t353 _ ?side1 ?side2 A12.out).mono ?_); (case side1 => exact cdl (Kd.C_below HR352_0.out HB.out)); (case side2 => exact HC352_0.out); rintro e w' ⟨rfl, ⟨nd, rfl⟩⟩; refine ⟨_, rfl, ?_⟩; have p354 : 0 ≤ (x7_1 : Int) := oda; have q354 : x7_1 < (l0_0.length : Int) := oda; obtain ⟨ad354, A354_0, c354_0, e354, hx354_0, hl354_0, hi354_0⟩ := at_L2 HR0_0.out x7_1 p354 q354; obtain rfl : ad351 = ad354 := (by injection e354); replace hx354_0 := cel HB hx354_0; have HR354_0 := Aside0.mk hi354_0; have HC354_0 := Aside0.mk hl354_0; clear hi354_0 hl354_0; replace p354 := eq_true p354; replace q354 := eq_true q354; have ea_ := Option.some.inj (hx351_0.symm.trans hx354_0); injection ea_ with ea_ en_ ec_; subst ea_; subst ec_; clear en_; have p355 : 0 ≤ (x8_2 : Int) := oda; have q355 : x8_2 < ((rd_L2 l0_0 x7_1).length : Int) := oda; obtain ⟨ad355, e355, hx355_0⟩ := Kd.at_int HR354_0.out x8_2 p355 q355; cases e355; replace hx355_0 := cel HB hx355_0; replace p355 := eq_true p355; replace q355 := eq_true q355))
    go_roundg k2
    case measure => have := HK1.out; have := HK2.out; omega
    case rel => exact ⟨(rd (rd_L2 l0_0 x7_1) x8_2), (t353), (wrap64 (x8_2 + 1)), (by first | rfl | (simp; done) | (simp [*]; done)), (by first | rfl | (simp; done) | (simp [*]; done)), (by first | rfl | (simp; done) | (simp [*]; done)), H', ⟨by have := HK1.out; have := HK2.out; omega⟩, ⟨bkl BK349⟩, ⟨bel1 HB GE349⟩⟩
   rw [if_neg c13] at H
   have c13b0 : decide (x6_2 < t353) = false := decide_eq_false c13
   clear c13
   by_cases c16 : t353 = x6_2
   rotate_left
   ·rw [if_neg c16] at H
    have c16b0 : (t353 == x6_2) = false := beq_eq_false_iff_ne.mpr c16
    have c16b1 : (t353 != x6_2) = true := bne_iff_ne.mpr c16
    have H' := Aside0.mk H
    clear H
    have hcz23_0 : wr.cell? ⟨gb349, 0, none⟩ = some (.slice A0_0 l0_0.length c0_0) := (blk_cell BK349.out 0).trans rfl
    have hfz23_0 := blk_frozen BK349.out 0
    have p351 : 0 ≤ (x7_1 : Int) := oda
    have q351 : x7_1 < (l0_0.length : Int) := oda
    obtain ⟨ad351, A351_0, c351_0, e351, hx351_0, hl351_0, hi351_0⟩ := at_L2 HR0_0.out x7_1 p351 q351
    cases e351
    replace hx351_0 := cel HB hx351_0
    have HR351_0 := Aside0.mk hi351_0
    have HC351_0 := Aside0.mk hl351_0
    clear hi351_0 hl351_0
    replace p351 := eq_true p351
    replace q351 := eq_true q351
    have p352 : 0 ≤ (x7_1 : Int) := oda
    have q352 : x7_1 < (l0_0.length : Int) := oda
    obtain ⟨ad352, A352_0, c352_0, e352, hx352_0, hl352_0, hi352_0⟩ := at_L2 HR0_0.out x7_1 p352 q352
    obtain rfl : ad351 = ad352 := (by injection e352)
    replace hx352_0 := cel HB hx352_0
    have HR352_0 := Aside0.mk hi352_0
    have HC352_0 := Aside0.mk hl352_0
    clear hi352_0 hl352_0
    replace p352 := eq_true p352
    replace q352 := eq_true q352
    have ea_ := Option.some.inj (hx351_0.symm.trans hx352_0)
    injection ea_ with ea_ en_ ec_
    subst ea_
    subst ec_
    clear en_
    go_wp2_with (first | ((with_reducible refine gate_callee (f := 33) rfl ?_); refine goesL_ (some 36) rfl rfl Try.func33 (by kernel_rfl) rfl #[.slice A351_0 (rd_L2 l0_0 x7_1).length c351_0, .int .i64 x8_2] rfl gmp ?_; (with_reducible refine (spec_l8Below.calls k2 _ _ (rd_L2 l0_0 x7_1) x8_2 t353 _ ?side1 ?side2 A12.out).mono ?_); (case side1 => exact cdl (Kd.C_below HR352_0.out HB.out)); (case side2 => exact HC352_0.out); rintro e w' ⟨rfl, ⟨nd, rfl⟩⟩; refine ⟨_, rfl, ?_⟩))
    go_roundg k2
    case measure => have := HK1.out; have := HK2.out; omega
    case rel => exact ⟨(x5_2), (x6_2), (wrap64 (x8_2 + 1)), (by first | rfl | (simp; done) | (simp [*]; done)), (by first | rfl | (simp; done) | (simp [*]; done)), (by first | rfl | (simp; done) | (simp [*]; done)), H', ⟨by have := HK1.out; have := HK2.out; omega⟩, ⟨bkl BK349⟩, ⟨bel1 HB GE349⟩⟩
   rw [if_pos c16] at H
   have c16b0 : (t353 == x6_2) = true := beq_iff_eq.mpr c16
   have c16b1 : (t353 != x6_2) = false := bne_eq_false_iff_eq.mpr c16
   clear c16
   by_cases c17 : t353 > 0
   rotate_left
   ·rw [if_neg c17] at H
    have c17b0 : decide (0 < t353) = false := decide_eq_false c17
    clear c17
    have H' := Aside0.mk H
    clear H
    have hcz22_0 : wr.cell? ⟨gb349, 0, none⟩ = some (.slice A0_0 l0_0.length c0_0) := (blk_cell BK349.out 0).trans rfl
    have hfz22_0 := blk_frozen BK349.out 0
    have p351 : 0 ≤ (x7_1 : Int) := oda
    have q351 : x7_1 < (l0_0.length : Int) := oda
    obtain ⟨ad351, A351_0, c351_0, e351, hx351_0, hl351_0, hi351_0⟩ := at_L2 HR0_0.out x7_1 p351 q351
    cases e351
    replace hx351_0 := cel HB hx351_0
    have HR351_0 := Aside0.mk hi351_0
    have HC351_0 := Aside0.mk hl351_0
    clear hi351_0 hl351_0
    replace p351 := eq_true p351
    replace q351 := eq_true q351
    have p352 : 0 ≤ (x7_1 : Int) := oda
    have q352 : x7_1 < (l0_0.length : Int) := oda
    obtain ⟨ad352, A352_0, c352_0, e352, hx352_0, hl352_0, hi352_0⟩ := at_L2 HR0_0.out x7_1 p352 q352
    obtain rfl : ad351 = ad352 := (by injection e352)
    replace hx352_0 := cel HB hx352_0
    have HR352_0 := Aside0.mk hi352_0
    have HC352_0 := Aside0.mk hl352_0
    clear hi352_0 hl352_0
    replace p352 := eq_true p352
    replace q352 := eq_true q352
    have ea_ := Option.some.inj (hx351_0.symm.trans hx352_0)
    injection ea_ with ea_ en_ ec_
    subst ea_
    subst ec_
    clear en_
    go_wp2_with (first | ((with_reducible refine gate_callee (f := 33) rfl ?_); refine goesL_ (some 36) rfl rfl Try.func33 (by kernel_rfl) rfl #[.slice A351_0 (rd_L2 l0_0 x7_1).length c351_0, .int .i64 x8_2] rfl gmp ?_; (with_reducible refine (spec_l8Below.calls k2 _ _ (rd_L2 l0_0 x7_1) x8_2 t353 _ ?side1 ?side2 A12.out).mono ?_); (case side1 => exact cdl (Kd.C_below HR352_0.out HB.out)); (case side2 => exact HC352_0.out); rintro e w' ⟨rfl, ⟨nd, rfl⟩⟩; refine ⟨_, rfl, ?_⟩))
    go_roundg k2
    case measure => have := HK1.out; have := HK2.out; omega
    case rel => exact ⟨(x5_2), (x6_2), (wrap64 (x8_2 + 1)), (by first | rfl | (simp; done) | (simp [*]; done)), (by first | rfl | (simp; done) | (simp [*]; done)), (by first | rfl | (simp; done) | (simp [*]; done)), H', ⟨by have := HK1.out; have := HK2.out; omega⟩, ⟨bkl BK349⟩, ⟨bel1 HB GE349⟩⟩
   rw [if_pos c17] at H
   have c17b0 : decide (0 < t353) = true := decide_eq_true c17
   clear c17
   by_cases c18 : 0 ≤ x8_2
   rotate_left
   ·rw [if_neg c18] at H
    exact absurd H (by simp)
   rw [if_pos c18] at H
   have c18b0 : decide (0 ≤ x8_2) = true := decide_eq_true c18
   clear c18
   by_cases c19 : (rd (rd_L2 l0_0 x7_1) x8_2) < x5_2
   rotate_left
   ·rw [if_neg c19] at H
    have c19b0 : decide ((rd (rd_L2 l0_0 x7_1) x8_2) < x5_2) = false := decide_eq_false c19
    clear c19
    have H' := Aside0.mk H
    clear H
    have hcz21_0 : wr.cell? ⟨gb349, 0, none⟩ = some (.slice A0_0 l0_0.length c0_0) := (blk_cell BK349.out 0).trans rfl
    have hfz21_0 := blk_frozen BK349.out 0
    have p351 : 0 ≤ (x7_1 : Int) := oda
    have q351 : x7_1 < (l0_0.length : Int) := oda
    obtain ⟨ad351, A351_0, c351_0, e351, hx351_0, hl351_0, hi351_0⟩ := at_L2 HR0_0.out x7_1 p351 q351
    cases e351
    replace hx351_0 := cel HB hx351_0
    have HR351_0 := Aside0.mk hi351_0
    have HC351_0 := Aside0.mk hl351_0
    clear hi351_0 hl351_0
    replace p351 := eq_true p351
    replace q351 := eq_true q351
    have p352 : 0 ≤ (x7_1 : Int) := oda
    have q352 : x7_1 < (l0_0.length : Int) := oda
    obtain ⟨ad352, A352_0, c352_0, e352, hx352_0, hl352_0, hi352_0⟩ := at_L2 HR0_0.out x7_1 p352 q352
    obtain rfl : ad351 = ad352 := (by injection e352)
    replace hx352_0 := cel HB hx352_0
    have HR352_0 := Aside0.mk hi352_0
    have HC352_0 := Aside0.mk hl352_0
    clear hi352_0 hl352_0
    replace p352 := eq_true p352
    replace q352 := eq_true q352
    have ea_ := Option.some.inj (hx351_0.symm.trans hx352_0)
    injection ea_ with ea_ en_ ec_
    subst ea_
    subst ec_
    clear en_
    go_wp2_with (first | ((with_reducible refine gate_callee (f := 33) rfl ?_); refine goesL_ (some 36) rfl rfl Try.func33 (by kernel_rfl) rfl #[.slice A351_0 (rd_L2 l0_0 x7_1).length c351_0, .int .i64 x8_2] rfl gmp ?_; (with_reducible refine (spec_l8Below.calls k2 _ _ (rd_L2 l0_0 x7_1) x8_2 t353 _ ?side1 ?side2 A12.out).mono ?_); (case side1 => exact cdl (Kd.C_below HR352_0.out HB.out)); (case side2 => exact HC352_0.out); rintro e w' ⟨rfl, ⟨nd, rfl⟩⟩; refine ⟨_, rfl, ?_⟩; have p356 : 0 ≤ (x7_1 : Int) := oda; have q356 : x7_1 < (l0_0.length : Int) := oda; obtain ⟨ad356, A356_0, c356_0, e356, hx356_0, hl356_0, hi356_0⟩ := at_L2 HR0_0.out x7_1 p356 q356; obtain rfl : ad351 = ad356 := (by injection e356); replace hx356_0 := cel HB hx356_0; have HR356_0 := Aside0.mk hi356_0; have HC356_0 := Aside0.mk hl356_0; clear hi356_0 hl356_0; replace p356 := eq_true p356; replace q356 := eq_true q356; have ea_ := Option.some.inj (hx351_0.symm.trans hx356_0); injection ea_ with ea_ en_ ec_; subst ea_; subst ec_; clear en_; have p357 : 0 ≤ (x8_2 : Int) := oda; have q357 : x8_2 < ((rd_L2 l0_0 x7_1).length : Int) := oda; obtain ⟨ad357, e357, hx357_0⟩ := Kd.at_int HR356_0.out x8_2 p357 q357; cases e357; replace hx357_0 := cel HB hx357_0; replace p357 := eq_true p357; replace q357 := eq_true q357))
    go_roundg k2
    case measure => have := HK1.out; have := HK2.out; omega
    case rel => exact ⟨(x5_2), (x6_2), (wrap64 (x8_2 + 1)), (by first | rfl | (simp; done) | (simp [*]; done)), (by first | rfl | (simp; done) | (simp [*]; done)), (by first | rfl | (simp; done) | (simp [*]; done)), H', ⟨by have := HK1.out; have := HK2.out; omega⟩, ⟨bkl BK349⟩, ⟨bel1 HB GE349⟩⟩
   rw [if_pos c19] at H
   have c19b0 : decide ((rd (rd_L2 l0_0 x7_1) x8_2) < x5_2) = true := decide_eq_true c19
   clear c19
   have H' := Aside0.mk H
   clear H
   have hcz20_0 : wr.cell? ⟨gb349, 0, none⟩ = some (.slice A0_0 l0_0.length c0_0) := (blk_cell BK349.out 0).trans rfl
   have hfz20_0 := blk_frozen BK349.out 0
   have p351 : 0 ≤ (x7_1 : Int) := oda
   have q351 : x7_1 < (l0_0.length : Int) := oda
   obtain ⟨ad351, A351_0, c351_0, e351, hx351_0, hl351_0, hi351_0⟩ := at_L2 HR0_0.out x7_1 p351 q351
   cases e351
   replace hx351_0 := cel HB hx351_0
   have HR351_0 := Aside0.mk hi351_0
   have HC351_0 := Aside0.mk hl351_0
   clear hi351_0 hl351_0
   replace p351 := eq_true p351
   replace q351 := eq_true q351
   have p352 : 0 ≤ (x7_1 : Int) := oda
   have q352 : x7_1 < (l0_0.length : Int) := oda
   obtain ⟨ad352, A352_0, c352_0, e352, hx352_0, hl352_0, hi352_0⟩ := at_L2 HR0_0.out x7_1 p352 q352
   obtain rfl : ad351 = ad352 := (by injection e352)
   replace hx352_0 := cel HB hx352_0
   have HR352_0 := Aside0.mk hi352_0
   have HC352_0 := Aside0.mk hl352_0
   clear hi352_0 hl352_0
   replace p352 := eq_true p352
   replace q352 := eq_true q352
   have ea_ := Option.some.inj (hx351_0.symm.trans hx352_0)
   injection ea_ with ea_ en_ ec_
   subst ea_
   subst ec_
   clear en_
   go_wp2_with (first | ((with_reducible refine gate_callee (f := 33) rfl ?_); refine goesL_ (some 36) rfl rfl Try.func33 (by kernel_rfl) rfl #[.slice A351_0 (rd_L2 l0_0 x7_1).length c351_0, .int .i64 x8_2] rfl gmp ?_; (with_reducible refine (spec_l8Below.calls k2 _ _ (rd_L2 l0_0 x7_1) x8_2 t353 _ ?side1 ?side2 A12.out).mono ?_); (case side1 => exact cdl (Kd.C_below HR352_0.out HB.out)); (case side2 => exact HC352_0.out); rintro e w' ⟨rfl, ⟨nd, rfl⟩⟩; refine ⟨_, rfl, ?_⟩; have p356 : 0 ≤ (x7_1 : Int) := oda; have q356 : x7_1 < (l0_0.length : Int) := oda; obtain ⟨ad356, A356_0, c356_0, e356, hx356_0, hl356_0, hi356_0⟩ := at_L2 HR0_0.out x7_1 p356 q356; obtain rfl : ad351 = ad356 := (by injection e356); replace hx356_0 := cel HB hx356_0; have HR356_0 := Aside0.mk hi356_0; have HC356_0 := Aside0.mk hl356_0; clear hi356_0 hl356_0; replace p356 := eq_true p356; replace q356 := eq_true q356; have ea_ := Option.some.inj (hx351_0.symm.trans hx356_0); injection ea_ with ea_ en_ ec_; subst ea_; subst ec_; clear en_; have p357 : 0 ≤ (x8_2 : Int) := oda; have q357 : x8_2 < ((rd_L2 l0_0 x7_1).length : Int) := oda; obtain ⟨ad357, e357, hx357_0⟩ := Kd.at_int HR356_0.out x8_2 p357 q357; cases e357; replace hx357_0 := cel HB hx357_0; replace p357 := eq_true p357; replace q357 := eq_true q357; have p358 : 0 ≤ (x7_1 : Int) := oda; have q358 : x7_1 < (l0_0.length : Int) := oda; obtain ⟨ad358, A358_0, c358_0, e358, hx358_0, hl358_0, hi358_0⟩ := at_L2 HR0_0.out x7_1 p358 q358; obtain rfl : ad351 = ad358 := (by injection e358); replace hx358_0 := cel HB hx358_0; have HR358_0 := Aside0.mk hi358_0; have HC358_0 := Aside0.mk hl358_0; clear hi358_0 hl358_0; replace p358 := eq_true p358; replace q358 := eq_true q358; have ea_ := Option.some.inj (hx351_0.symm.trans hx358_0); injection ea_ with ea_ en_ ec_; subst ea_; subst ec_; clear en_; have p359 : 0 ≤ (x8_2 : Int) := oda; have q359 : x8_2 < ((rd_L2 l0_0 x7_1).length : Int) := oda; obtain ⟨ad359, e359, hx359_0⟩ := Kd.at_int HR358_0.out x8_2 p359 q359; cases e359; replace hx359_0 := cel HB hx359_0; replace p359 := eq_true p359; replace q359 := eq_true q359))
   go_roundg k2
   case measure => have := HK1.out; have := HK2.out; omega
   case rel => exact ⟨(rd (rd_L2 l0_0 x7_1) x8_2), (t353), (wrap64 (x8_2 + 1)), (by first | rfl | (simp; done) | (simp [*]; done)), (by first | rfl | (simp; done) | (simp [*]; done)), (by first | rfl | (simp; done) | (simp [*]; done)), H', ⟨by have := HK1.out; have := HK2.out; omega⟩, ⟨bkl BK349⟩, ⟨bel1 HB GE349⟩⟩
/-! ### laws_vHas: function 13 -/
def laws_vHas.l0 : Nat → List Int → Int → Int → Option (Bool)
 | 0, _, _, _ => none
 | k + 1, x0, x1, x5 => if x5 < (x0.length : Int) then (if 0 ≤ x5 then (if (rd x0 x5) = x1 then (some true) else (laws_vHas.l0 k x0 x1 (wrap64 (x5 + 1)))) else (none)) else (some false)
def laws_vHas.f (k : Nat) (l0 : List Int) (a1 : Int) : Option (Bool) := laws_vHas.l0 k l0 a1 0
theorem laws_vHas.mono_l : ∀ k, (∀ y0 y1 y2, LeO (laws_vHas.l0 k y0 y1 y2) (laws_vHas.l0 (k + 1) y0 y1 y2))
 | 0 => fun _ _ _ r h => by simp [laws_vHas.l0] at h
 | k + 1 => by
  have ih0 := laws_vHas.mono_l k
  ·intro y0 y1 y2
   unfold laws_vHas.l0
   repeat' first
   | (with_reducible exact ih0 _ _ _)
   | (with_reducible exact LeO.refl _)
   | (with_reducible exact LeO.none _)
   | (with_reducible refine LeO.ite ?_ ?_)
   | (with_reducible refine LeO.bind ?_ (fun _ => ?_))
   | exact ih0 _ _ _
   | exact LeO.none _
   | refine LeO.ite ?_ ?_
   | refine LeO.bind ?_ (fun _ => ?_)
theorem laws_vHas.mono : ∀ a0 a1 k, LeO (laws_vHas.f k a0 a1) (laws_vHas.f (k + 1) a0 a1) := by
 intro a0 a1 k
 have ih0 := laws_vHas.mono_l k
 unfold laws_vHas.f
 repeat' first
   | (with_reducible exact ih0 _ _ _)
   | (with_reducible exact LeO.refl _)
   | (with_reducible exact LeO.none _)
   | (with_reducible refine LeO.ite ?_ ?_)
   | (with_reducible refine LeO.bind ?_ (fun _ => ?_))
   | exact ih0 _ _ _
   | exact LeO.none _
   | refine LeO.ite ?_ ?_
   | refine LeO.bind ?_ (fun _ => ?_)
set_option maxHeartbeats 8000000 in
set_option maxRecDepth 100000 in
theorem laws_vHas.calls (k : Nat) (A0 : Option Addr) (c0 : Nat) (l0 : List Int) (a1 : Int) (r : Bool) (w : World) (hr0 : Kd.C (Kd.int .i64) w A0 l0.length l0) (hc0 : l0.length ≤ c0) (h : laws_vHas.f k l0 a1 = some r) :
  Calls Try.prog 13 #[.slice A0 l0.length c0, .int .i64 a1] w fun e w' => e = .returned (.bool r) ∧ Drawn0 w w' := by
 have HR0 := Aside0.mk hr0
 have HC0 := Aside0.mk hc0
 clear hr0 hc0
 have H : (laws_vHas.l0 k l0 a1 0) = some r := h
 clear h
 have H' := Aside0.mk H
 clear H
 go_enter Try.func13, Try.ntmps13
 go_wp2
 go_loopg [5] k (fun kq v5 w' => ∃ (x5_1 : Int), v5 = .int .i64 x5_1 ∧ Aside0 (laws_vHas.l0 kq l0 a1 x5_1 = some r) ∧ Aside0 (kq ≤ k) ∧ Drawn0 w w')
 case atStart => exact ⟨(0), (by first | rfl | (simp; done) | (simp [*]; done)), H', ⟨Nat.le_refl _⟩, by repeat (first | exact Drawn0.refl _ | apply Drawn0.step)⟩
 clear H'
 try clear c1
 try clear p2
 obtain ⟨x5_1, rfl, HA, HK1, ⟨m1, rfl⟩⟩ := hrel
 cases gk with
 | zero => exact absurd HA.out (by simp [laws_vHas.l0])
 | succ k1 =>
  have H := HA.out
  clear HA
  simp only [laws_vHas.l0] at H
  by_cases c3 : x5_1 < (l0.length : Int)
  rotate_left
  ·rw [if_neg c3] at H
   have c3b0 : decide (x5_1 < (l0.length : Int)) = false := decide_eq_false c3
   clear c3
   obtain rfl := Option.some.inj H
   go_wp2
   go_ret
   exact ⟨by first | rfl | (simp; done) | (simp [*]; done), by repeat (first | exact Drawn0.refl _ | apply Drawn0.step)⟩
  rw [if_pos c3] at H
  have c3b0 : decide (x5_1 < (l0.length : Int)) = true := decide_eq_true c3
  clear c3
  by_cases c4 : 0 ≤ x5_1
  rotate_left
  ·rw [if_neg c4] at H
   exact absurd H (by simp)
  rw [if_pos c4] at H
  have c4b0 : decide (0 ≤ x5_1) = true := decide_eq_true c4
  clear c4
  by_cases c5 : (rd l0 x5_1) = a1
  ·rw [if_pos c5] at H
   have c5b0 : ((rd l0 x5_1) == a1) = true := beq_iff_eq.mpr c5
   have c5b1 : ((rd l0 x5_1) != a1) = false := bne_eq_false_iff_eq.mpr c5
   clear c5
   obtain rfl := Option.some.inj H
   have p360 : 0 ≤ (x5_1 : Int) := oda
   have q360 : x5_1 < (l0.length : Int) := oda
   obtain ⟨ad360, e360, hx360_0⟩ := Kd.at_int HR0.out x5_1 p360 q360
   cases e360
   replace p360 := eq_true p360
   replace q360 := eq_true q360
   go_wp2
   go_ret
   exact ⟨by first | rfl | (simp; done) | (simp [*]; done), by repeat (first | exact Drawn0.refl _ | apply Drawn0.step)⟩
  rw [if_neg c5] at H
  have c5b0 : ((rd l0 x5_1) == a1) = false := beq_eq_false_iff_ne.mpr c5
  have c5b1 : ((rd l0 x5_1) != a1) = true := bne_iff_ne.mpr c5
  have H' := Aside0.mk H
  clear H
  have p360 : 0 ≤ (x5_1 : Int) := oda
  have q360 : x5_1 < (l0.length : Int) := oda
  obtain ⟨ad360, e360, hx360_0⟩ := Kd.at_int HR0.out x5_1 p360 q360
  cases e360
  replace p360 := eq_true p360
  replace q360 := eq_true q360
  go_wp2
  go_roundg k1
  case measure => have := HK1.out; omega
  case rel => exact ⟨(wrap64 (x5_1 + 1)), (by first | rfl | (simp; done) | (simp [*]; done)), H', ⟨by have := HK1.out; omega⟩, by repeat (first | exact Drawn0.refl _ | apply Drawn0.step)⟩
/-! ### slices_Index_int_int: function 59 -/
def slices_Index_int_int.l0 : Nat → List Int → Int → Int → Int → Option (Int)
 | 0, _, _, _, _ => none
 | k + 1, x0, x1, x7, x8 => if x8 < x7 then (if 0 ≤ x8 then (if x8 < (x0.length : Int) then (if x1 = (rd x0 x8) then (some x8) else (slices_Index_int_int.l0 k x0 x1 x7 (wrap64 (x8 + 1)))) else (none)) else (none)) else (some (-1))
def slices_Index_int_int.f (k : Nat) (l0 : List Int) (a1 : Int) : Option (Int) := slices_Index_int_int.l0 k l0 a1 (l0.length : Int) 0
theorem slices_Index_int_int.mono_l : ∀ k, (∀ y0 y1 y2 y3, LeO (slices_Index_int_int.l0 k y0 y1 y2 y3) (slices_Index_int_int.l0 (k + 1) y0 y1 y2 y3))
 | 0 => fun _ _ _ _ r h => by simp [slices_Index_int_int.l0] at h
 | k + 1 => by
  have ih0 := slices_Index_int_int.mono_l k
  ·intro y0 y1 y2 y3
   unfold slices_Index_int_int.l0
   repeat' first
   | (with_reducible exact ih0 _ _ _ _)
   | (with_reducible exact LeO.refl _)
   | (with_reducible exact LeO.none _)
   | (with_reducible refine LeO.ite ?_ ?_)
   | (with_reducible refine LeO.bind ?_ (fun _ => ?_))
   | exact ih0 _ _ _ _
   | exact LeO.none _
   | refine LeO.ite ?_ ?_
   | refine LeO.bind ?_ (fun _ => ?_)
theorem slices_Index_int_int.mono : ∀ a0 a1 k, LeO (slices_Index_int_int.f k a0 a1) (slices_Index_int_int.f (k + 1) a0 a1) := by
 intro a0 a1 k
 have ih0 := slices_Index_int_int.mono_l k
 unfold slices_Index_int_int.f
 repeat' first
   | (with_reducible exact ih0 _ _ _ _)
   | (with_reducible exact LeO.refl _)
   | (with_reducible exact LeO.none _)
   | (with_reducible refine LeO.ite ?_ ?_)
   | (with_reducible refine LeO.bind ?_ (fun _ => ?_))
   | exact ih0 _ _ _ _
   | exact LeO.none _
   | refine LeO.ite ?_ ?_
   | refine LeO.bind ?_ (fun _ => ?_)
set_option maxHeartbeats 8000000 in
set_option maxRecDepth 100000 in
theorem slices_Index_int_int.calls (k : Nat) (A0 : Option Addr) (c0 : Nat) (l0 : List Int) (a1 : Int) (r : Int) (w : World) (hr0 : Kd.C (Kd.int .i64) w A0 l0.length l0) (hc0 : l0.length ≤ c0) (h : slices_Index_int_int.f k l0 a1 = some r) :
  Calls Try.prog 59 #[.slice A0 l0.length c0, .int .i64 a1] w fun e w' => e = .returned (.int .i64 r) ∧ Drawn0 w w' := by
 have HR0 := Aside0.mk hr0
 have HC0 := Aside0.mk hc0
 clear hr0 hc0
 have H : (slices_Index_int_int.l0 k l0 a1 (l0.length : Int) 0) = some r := h
 clear h
 have H' := Aside0.mk H
 clear H
 go_enter Try.func59, Try.ntmps59
 go_wp2
 go_loopg [8] k (fun kq v8 w' => ∃ (x8_1 : Int), v8 = .int .i64 x8_1 ∧ Aside0 (slices_Index_int_int.l0 kq l0 a1 (l0.length : Int) x8_1 = some r) ∧ Aside0 (kq ≤ k) ∧ Drawn0 w w')
 case atStart => exact ⟨(0), (by first | rfl | (simp; done) | (simp [*]; done)), H', ⟨Nat.le_refl _⟩, by repeat (first | exact Drawn0.refl _ | apply Drawn0.step)⟩
 clear H'
 try clear p2
 obtain ⟨x8_1, rfl, HA, HK1, ⟨m1, rfl⟩⟩ := hrel
 cases gk with
 | zero => exact absurd HA.out (by simp [slices_Index_int_int.l0])
 | succ k1 =>
  have H := HA.out
  clear HA
  simp only [slices_Index_int_int.l0] at H
  by_cases c3 : x8_1 < (l0.length : Int)
  rotate_left
  ·rw [if_neg c3] at H
   have c3b0 : decide (x8_1 < (l0.length : Int)) = false := decide_eq_false c3
   clear c3
   obtain rfl := Option.some.inj H
   go_wp2
   go_ret
   exact ⟨by first | rfl | (simp; done) | (simp [*]; done), by repeat (first | exact Drawn0.refl _ | apply Drawn0.step)⟩
  rw [if_pos c3] at H
  have c3b0 : decide (x8_1 < (l0.length : Int)) = true := decide_eq_true c3
  clear c3
  by_cases c4 : 0 ≤ x8_1
  rotate_left
  ·rw [if_neg c4] at H
   exact absurd H (by simp)
  rw [if_pos c4] at H
  have c4b0 : decide (0 ≤ x8_1) = true := decide_eq_true c4
  clear c4
  by_cases c5 : x8_1 < (l0.length : Int)
  rotate_left
  ·rw [if_neg c5] at H
   exact absurd H (by simp)
  rw [if_pos c5] at H
  have c5b0 : decide (x8_1 < (l0.length : Int)) = true := decide_eq_true c5
  clear c5
  by_cases c6 : a1 = (rd l0 x8_1)
  ·rw [if_pos c6] at H
   have c6b0 : (a1 == (rd l0 x8_1)) = true := beq_iff_eq.mpr c6
   have c6b1 : (a1 != (rd l0 x8_1)) = false := bne_eq_false_iff_eq.mpr c6
   clear c6
   obtain rfl := Option.some.inj H
   have p361 : 0 ≤ (x8_1 : Int) := oda
   have q361 : x8_1 < (l0.length : Int) := oda
   obtain ⟨ad361, e361, hx361_0⟩ := Kd.at_int HR0.out x8_1 p361 q361
   cases e361
   replace p361 := eq_true p361
   replace q361 := eq_true q361
   go_wp2
   go_ret
   exact ⟨by first | rfl | (simp; done) | (simp [*]; done), by repeat (first | exact Drawn0.refl _ | apply Drawn0.step)⟩
  rw [if_neg c6] at H
  have c6b0 : (a1 == (rd l0 x8_1)) = false := beq_eq_false_iff_ne.mpr c6
  have c6b1 : (a1 != (rd l0 x8_1)) = true := bne_iff_ne.mpr c6
  have H' := Aside0.mk H
  clear H
  have p361 : 0 ≤ (x8_1 : Int) := oda
  have q361 : x8_1 < (l0.length : Int) := oda
  obtain ⟨ad361, e361, hx361_0⟩ := Kd.at_int HR0.out x8_1 p361 q361
  cases e361
  replace p361 := eq_true p361
  replace q361 := eq_true q361
  go_wp2
  go_roundg k1
  case measure => have := HK1.out; omega
  case rel => exact ⟨(wrap64 (x8_1 + 1)), (by first | rfl | (simp; done) | (simp [*]; done)), H', ⟨by have := HK1.out; omega⟩, by repeat (first | exact Drawn0.refl _ | apply Drawn0.step)⟩
/-! ### impl_placeOf: function 34 -/
def impl_placeOf.l0 : Nat → Int → List (List Int) → Int → Int → Option (Int × Int)
 | 0, _, _, _, _ => none
 | k + 1, x1, x10, x11, x12 => if x12 < x11 then (if 0 ≤ x12 then (if x12 < (x10.length : Int) then ((slices_Index_int_int.f k (rd_L2 x10 x12) x1).bind fun t364 => (if t364 ≥ 0 then (some (x12, t364)) else (impl_placeOf.l0 k x1 x10 x11 (wrap64 (x12 + 1))))) else (none)) else (none)) else (some ((-1), (-1)))
def impl_placeOf.f (k : Nat) (l0_0 : List (List Int)) (a1 : Int) : Option (Int × Int) := impl_placeOf.l0 k a1 l0_0 (l0_0.length : Int) 0
theorem impl_placeOf.mono_l : ∀ k, (∀ y0 y1 y2 y3, LeO (impl_placeOf.l0 k y0 y1 y2 y3) (impl_placeOf.l0 (k + 1) y0 y1 y2 y3))
 | 0 => fun _ _ _ _ r h => by simp [impl_placeOf.l0] at h
 | k + 1 => by
  have ih0 := impl_placeOf.mono_l k
  ·intro y0 y1 y2 y3
   unfold impl_placeOf.l0
   repeat' first
   | (with_reducible exact ih0 _ _ _ _)
   | (with_reducible exact slices_Index_int_int.mono _ _ _)
   | (with_reducible exact LeO.refl _)
   | (with_reducible exact LeO.none _)
   | (with_reducible refine LeO.ite ?_ ?_)
   | (with_reducible refine LeO.bind ?_ (fun _ => ?_))
   | exact ih0 _ _ _ _
   | exact slices_Index_int_int.mono _ _ _
   | exact LeO.none _
   | refine LeO.ite ?_ ?_
   | refine LeO.bind ?_ (fun _ => ?_)
theorem impl_placeOf.mono : ∀ a0 a1 k, LeO (impl_placeOf.f k a0 a1) (impl_placeOf.f (k + 1) a0 a1) := by
 intro a0 a1 k
 have ih0 := impl_placeOf.mono_l k
 unfold impl_placeOf.f
 repeat' first
   | (with_reducible exact ih0 _ _ _ _)
   | (with_reducible exact slices_Index_int_int.mono _ _ _)
   | (with_reducible exact LeO.refl _)
   | (with_reducible exact LeO.none _)
   | (with_reducible refine LeO.ite ?_ ?_)
   | (with_reducible refine LeO.bind ?_ (fun _ => ?_))
   | exact ih0 _ _ _ _
   | exact slices_Index_int_int.mono _ _ _
   | exact LeO.none _
   | refine LeO.ite ?_ ?_
   | refine LeO.bind ?_ (fun _ => ?_)
set_option maxHeartbeats 8000000 in
set_option maxRecDepth 100000 in
theorem impl_placeOf.calls (k : Nat) (A0_0 : Option Addr) (c0_0 : Nat) (l0_0 : List (List Int)) (a1 : Int) (r1 : Int) (r2 : Int) (w : World) (hr0_0 : Kd.C (Kd.slice 3 (Kd.int .i64)) w A0_0 l0_0.length l0_0) (hc0_0 : l0_0.length ≤ c0_0) (h : impl_placeOf.f k l0_0 a1 = some (r1, r2)) :
  Calls Try.prog 34 #[.agg #[.slice A0_0 l0_0.length c0_0], .int .i64 a1] w fun e w' => e = .returned (.tuple #[.int .i64 r1, .int .i64 r2]) ∧ Below w.heap.size w w' := by
 have hu26 := Try.underlying26
 have HR0_0 := Aside0.mk hr0_0
 have HC0_0 := Aside0.mk hc0_0
 clear hr0_0 hc0_0
 have HB := Aside0.mk (Below.refl w.heap.size w)
 have H : (impl_placeOf.l0 k a1 l0_0 (l0_0.length : Int) 0) = some (r1, r2) := h
 clear h
 have H' := Aside0.mk H
 clear H
 go_enter Try.func34, Try.ntmps34
 go_wp2_with (first | ((with_reducible refine gate_dst (N := 2) rfl ?_); refine box_event ?hg (N := 2) ?hd (cs := #[.slice A0_0 l0_0.length c0_0]) (t := 26) ?hr ?_; (case hd => rfl); (case hg => rfl); (case hr => first | (go_simp; done) | (go_simp; rfl)); intro gb362 hg w3 hbox hb; have n0_ := Aside0.mk (below_step (bel HB) hb); have n1_ := Aside0.mk (hbox); have n2_ := Aside0.mk ((by rw [hg]; exact (below_size (bel HB)) : w.heap.size ≤ gb362)); have n3_ := Aside0.mk ((by rw [hg]; exact (below_size (bel HB)) : w.heap.size ≤ gb362)); clear HB; have HB := n0_; have BK362 := n1_; have GW362 := n2_; have GE362 := n3_; clear n0_ n1_ n2_ n3_; clear hb hbox hg; have hcz4_0 : w3.cell? ⟨gb362, 0, none⟩ = some (.slice A0_0 l0_0.length c0_0) := (blk_cell BK362.out 0).trans rfl; have hfz4_0 := blk_frozen BK362.out 0))
 go_loopg [12] k (fun kq v12 w' => ∃ (x12_1 : Int), v12 = .int .i64 x12_1 ∧ Aside0 (impl_placeOf.l0 kq a1 l0_0 (l0_0.length : Int) x12_1 = some (r1, r2)) ∧ Aside0 (kq ≤ k) ∧ Aside0 (w'.heap[gb362]? = some (.cells #[(.slice A0_0 l0_0.length c0_0)] 26 (0, 0))) ∧ Aside0 (Below w.heap.size w w'))
 case atStart => exact ⟨(0), (by first | rfl | (simp; done) | (simp [*]; done)), H', ⟨Nat.le_refl _⟩, ⟨bkl BK362⟩, ⟨bel1 HB GE362⟩⟩
 clear H'
 try clear p2
 try clear c3
 try clear hcz4_0
 try clear hfz4_0
 obtain ⟨x12_1, rfl, HA, HK1, BK362, HB⟩ := hrel
 cases gk with
 | zero => exact absurd HA.out (by simp [impl_placeOf.l0])
 | succ k1 =>
  have H := HA.out
  clear HA
  simp only [impl_placeOf.l0] at H
  by_cases c5 : x12_1 < (l0_0.length : Int)
  rotate_left
  ·rw [if_neg c5] at H
   have c5b0 : decide (x12_1 < (l0_0.length : Int)) = false := decide_eq_false c5
   clear c5
   simp only [Option.some.injEq, Prod.mk.injEq] at H
   obtain ⟨rfl, rfl⟩ := H
   go_wp2
   go_ret2
   exact ⟨by first | rfl | (simp [errW_none, errW_some] <;> rfl) | (simp [*, errW_none, errW_some] <;> rfl), bel1 HB GE362⟩
  rw [if_pos c5] at H
  have c5b0 : decide (x12_1 < (l0_0.length : Int)) = true := decide_eq_true c5
  clear c5
  by_cases c6 : 0 ≤ x12_1
  rotate_left
  ·rw [if_neg c6] at H
   exact absurd H (by simp)
  rw [if_pos c6] at H
  have c6b0 : decide (0 ≤ x12_1) = true := decide_eq_true c6
  clear c6
  by_cases c7 : x12_1 < (l0_0.length : Int)
  rotate_left
  ·rw [if_neg c7] at H
   exact absurd H (by simp)
  rw [if_pos c7] at H
  have c7b0 : decide (x12_1 < (l0_0.length : Int)) = true := decide_eq_true c7
  clear c7
  replace H := Option.bind_eq_some_iff.mp H
  obtain ⟨t364, A80, H⟩ := H
  replace H : (if t364 ≥ 0 then (some (x12_1, t364)) else (impl_placeOf.l0 k1 a1 l0_0 (l0_0.length : Int) (wrap64 (x12_1 + 1)))) = some (r1, r2) := H
  have A8 := Aside0.mk A80
  clear A80
  by_cases c9 : t364 ≥ 0
  ·rw [if_pos c9] at H
   have c9b0 : decide (0 ≤ t364) = true := decide_eq_true c9
   clear c9
   simp only [Option.some.injEq, Prod.mk.injEq] at H
   obtain ⟨rfl, rfl⟩ := H
   have p363 : 0 ≤ (x12_1 : Int) := oda
   have q363 : x12_1 < (l0_0.length : Int) := oda
   obtain ⟨ad363, A363_0, c363_0, e363, hx363_0, hl363_0, hi363_0⟩ := at_L2 HR0_0.out x12_1 p363 q363
   cases e363
   replace hx363_0 := cel HB hx363_0
   have HR363_0 := Aside0.mk hi363_0
   have HC363_0 := Aside0.mk hl363_0
   clear hi363_0 hl363_0
   replace p363 := eq_true p363
   replace q363 := eq_true q363
   go_wp2_with (first | ((with_reducible refine gate_callee (f := 59) rfl ?_); refine goesL_ (some 19) rfl rfl Try.func59 (by kernel_rfl) rfl #[.slice A363_0 (rd_L2 l0_0 x12_1).length c363_0, .int .i64 a1] rfl gmp ?_; (with_reducible refine (slices_Index_int_int.calls k1 _ _ (rd_L2 l0_0 x12_1) a1 t364 _ ?side1 ?side2 A8.out).mono ?_); (case side1 => exact cdl (Kd.C_below HR363_0.out HB.out)); (case side2 => exact HC363_0.out); rintro e w' ⟨rfl, ⟨nd, rfl⟩⟩; refine ⟨_, rfl, ?_⟩))
   go_ret2
   exact ⟨by first | rfl | (simp [errW_none, errW_some] <;> rfl) | (simp [*, errW_none, errW_some] <;> rfl), bel1 HB GE362⟩
  rw [if_neg c9] at H
  have c9b0 : decide (0 ≤ t364) = false := decide_eq_false c9
  clear c9
  have H' := Aside0.mk H
  clear H
  have p363 : 0 ≤ (x12_1 : Int) := oda
  have q363 : x12_1 < (l0_0.length : Int) := oda
  obtain ⟨ad363, A363_0, c363_0, e363, hx363_0, hl363_0, hi363_0⟩ := at_L2 HR0_0.out x12_1 p363 q363
  cases e363
  replace hx363_0 := cel HB hx363_0
  have HR363_0 := Aside0.mk hi363_0
  have HC363_0 := Aside0.mk hl363_0
  clear hi363_0 hl363_0
  replace p363 := eq_true p363
  replace q363 := eq_true q363
  go_wp2_with (first | ((with_reducible refine gate_callee (f := 59) rfl ?_); refine goesL_ (some 19) rfl rfl Try.func59 (by kernel_rfl) rfl #[.slice A363_0 (rd_L2 l0_0 x12_1).length c363_0, .int .i64 a1] rfl gmp ?_; (with_reducible refine (slices_Index_int_int.calls k1 _ _ (rd_L2 l0_0 x12_1) a1 t364 _ ?side1 ?side2 A8.out).mono ?_); (case side1 => exact cdl (Kd.C_below HR363_0.out HB.out)); (case side2 => exact HC363_0.out); rintro e w' ⟨rfl, ⟨nd, rfl⟩⟩; refine ⟨_, rfl, ?_⟩))
  go_roundg k1
  case measure => have := HK1.out; omega
  case rel => exact ⟨(wrap64 (x12_1 + 1)), (by first | rfl | (simp; done) | (simp [*]; done)), H', ⟨by have := HK1.out; omega⟩, ⟨bkl BK362⟩, ⟨bel1 HB GE362⟩⟩
/-! ### impl_PlaceOf: function 14 -/
def impl_PlaceOf.f (k : Nat) (l0_0 : List (List Int)) (a1 : Int) : Option (Int × Int × Bool) := (impl_placeOf.f k l0_0 a1).bind fun bt366 => ((impl_IsValidYard.f l0_0).bind fun t368 => (if t368 = true then (if bt366.1 < 0 then (some (0, 0, false)) else (some (bt366.1, bt366.2, true))) else (some (0, 0, false))))
theorem impl_PlaceOf.mono : ∀ a0 a1 k, LeO (impl_PlaceOf.f k a0 a1) (impl_PlaceOf.f (k + 1) a0 a1) := by
 intro a0 a1 k
 unfold impl_PlaceOf.f
 repeat' first
   | (with_reducible exact impl_placeOf.mono _ _ _)
   | (with_reducible exact LeO.refl _)
   | (with_reducible exact LeO.none _)
   | (with_reducible refine LeO.ite ?_ ?_)
   | (with_reducible refine LeO.bind ?_ (fun _ => ?_))
   | exact impl_placeOf.mono _ _ _
   | exact LeO.none _
   | refine LeO.ite ?_ ?_
   | refine LeO.bind ?_ (fun _ => ?_)
set_option maxHeartbeats 8000000 in
set_option maxRecDepth 100000 in
theorem impl_PlaceOf.calls (k : Nat) (A0_0 : Option Addr) (c0_0 : Nat) (l0_0 : List (List Int)) (a1 : Int) (r1 : Int) (r2 : Int) (r3 : Bool) (w : World) (hr0_0 : Kd.C (Kd.slice 3 (Kd.int .i64)) w A0_0 l0_0.length l0_0) (hc0_0 : l0_0.length ≤ c0_0) (h : impl_PlaceOf.f k l0_0 a1 = some (r1, r2, r3)) :
  Calls Try.prog 14 #[.agg #[.slice A0_0 l0_0.length c0_0], .int .i64 a1] w fun e w' => e = .returned (.tuple #[.int .i64 r1, .int .i64 r2, .bool r3]) ∧ Below w.heap.size w w' := by
 have hu26 := Try.underlying26
 have HR0_0 := Aside0.mk hr0_0
 have HC0_0 := Aside0.mk hc0_0
 clear hr0_0 hc0_0
 have HB := Aside0.mk (Below.refl w.heap.size w)
 have H : ((impl_placeOf.f k l0_0 a1).bind fun bt366 => ((impl_IsValidYard.f l0_0).bind fun t368 => (if t368 = true then (if bt366.1 < 0 then (some (0, 0, false)) else (some (bt366.1, bt366.2, true))) else (some (0, 0, false))))) = some (r1, r2, r3) := h
 clear h
 replace H := Option.bind_eq_some_iff.mp H
 obtain ⟨⟨t366, t367⟩, A30, H⟩ := H
 replace H : ((impl_IsValidYard.f l0_0).bind fun t368 => (if t368 = true then (if t366 < 0 then (some (0, 0, false)) else (some (t366, t367, true))) else (some (0, 0, false)))) = some (r1, r2, r3) := H
 have A3 := Aside0.mk A30
 clear A30
 replace H := Option.bind_eq_some_iff.mp H
 obtain ⟨t368, A40, H⟩ := H
 replace H : (if t368 = true then (if t366 < 0 then (some (0, 0, false)) else (some (t366, t367, true))) else (some (0, 0, false))) = some (r1, r2, r3) := H
 have A4 := Aside0.mk A40
 clear A40
 by_cases c5 : t368 = true
 rotate_left
 ·replace c5 := Bool.eq_false_iff.mpr c5
  subst c5
  have H1 : (some (0, 0, false)) = some (r1, r2, r3) := by rw [if_neg (show ¬ (false = true) by decide)] at H; exact H
  clear H
  have H := H1
  clear H1
  simp only [Option.some.injEq, Prod.mk.injEq] at H
  obtain ⟨rfl, rfl, rfl⟩ := H
  go_enter Try.func14, Try.ntmps14
  go_wp2_with (first | ((with_reducible refine gate_dst (N := 2) rfl ?_); refine box_event ?hg (N := 2) ?hd (cs := #[.slice A0_0 l0_0.length c0_0]) (t := 26) ?hr ?_; (case hd => rfl); (case hg => rfl); (case hr => first | (go_simp; done) | (go_simp; rfl)); intro gb365 hg w17 hbox hb; have n0_ := Aside0.mk (below_step (bel HB) hb); have n1_ := Aside0.mk (hbox); have n2_ := Aside0.mk ((by rw [hg]; exact (below_size (bel HB)) : w.heap.size ≤ gb365)); have n3_ := Aside0.mk ((by rw [hg]; exact (below_size (bel HB)) : w.heap.size ≤ gb365)); clear HB; have HB := n0_; have BK365 := n1_; have GW365 := n2_; have GE365 := n3_; clear n0_ n1_ n2_ n3_; clear hb hbox hg; have hcz18_0 : w17.cell? ⟨gb365, 0, none⟩ = some (.slice A0_0 l0_0.length c0_0) := (blk_cell BK365.out 0).trans rfl; have hfz18_0 := blk_frozen BK365.out 0) | ((with_reducible refine gate_callee (f := 34) rfl ?_); refine goesL_ (some 12) rfl rfl Try.func34 (by kernel_rfl) rfl #[.agg #[.slice A0_0 l0_0.length c0_0], .int .i64 a1] rfl gmp ?_; (with_reducible refine (impl_placeOf.calls k _ _ l0_0 a1 t366 t367 _ ?side1 ?side2 A3.out).mono ?_); (case side1 => exact cdl (Kd.C_below HR0_0.out HB.out)); (case side2 => exact HC0_0.out); rintro e w19 ⟨rfl, hb⟩; refine ⟨_, rfl, ?_⟩; have n0_ := Aside0.mk (blk_below (g := gb365) (o := .cells #[.slice A0_0 l0_0.length c0_0] 26 (0, 0)) (bkl BK365) hb); have n1_ := Aside0.mk (below_step (bel1 HB GE365) hb); clear BK365; clear HB; have BK365 := n0_; have HB := n1_; clear n0_ n1_; (try clear hb); (try clear hb2); (try clear hk); (try clear hi); have hcz20_0 : w19.cell? ⟨gb365, 0, none⟩ = some (.slice A0_0 l0_0.length c0_0) := (blk_cell BK365.out 0).trans rfl; have hfz20_0 := blk_frozen BK365.out 0) | ((with_reducible refine gate_callee (f := 28) rfl ?_); refine goesL_ (some 16) rfl rfl Try.func28 (by kernel_rfl) rfl #[.agg #[.slice A0_0 l0_0.length c0_0]] rfl gmp ?_; (with_reducible refine (impl_IsValidYard.calls _ _ l0_0 false _ ?side1 ?side2 A4.out).mono ?_); (case side1 => exact cdl (Kd.C_below HR0_0.out HB.out)); (case side2 => exact HC0_0.out); rintro e w21 ⟨rfl, hb⟩; refine ⟨_, rfl, ?_⟩; have n0_ := Aside0.mk (blk_below (g := gb365) (o := .cells #[.slice A0_0 l0_0.length c0_0] 26 (0, 0)) (bkl BK365) hb); have n1_ := Aside0.mk (below_step (bel1 HB GE365) hb); clear BK365; clear HB; have BK365 := n0_; have HB := n1_; clear n0_ n1_; (try clear hb); (try clear hb2); (try clear hk); (try clear hi)))
  go_ret3
  exact ⟨by first | rfl | (simp [errW_none, errW_some] <;> rfl) | (simp [*, errW_none, errW_some] <;> rfl), bel1 HB GE365⟩
 subst c5
 have H1 : (if t366 < 0 then (some (0, 0, false)) else (some (t366, t367, true))) = some (r1, r2, r3) := by rw [if_pos rfl] at H; exact H
 clear H
 have H := H1
 clear H1
 by_cases c6 : t366 < 0
 ·rw [if_pos c6] at H
  have c6b0 : decide (t366 < 0) = true := decide_eq_true c6
  clear c6
  simp only [Option.some.injEq, Prod.mk.injEq] at H
  obtain ⟨rfl, rfl, rfl⟩ := H
  go_enter Try.func14, Try.ntmps14
  go_wp2_with (first | ((with_reducible refine gate_dst (N := 2) rfl ?_); refine box_event ?hg (N := 2) ?hd (cs := #[.slice A0_0 l0_0.length c0_0]) (t := 26) ?hr ?_; (case hd => rfl); (case hg => rfl); (case hr => first | (go_simp; done) | (go_simp; rfl)); intro gb365 hg w7 hbox hb; have n0_ := Aside0.mk (below_step (bel HB) hb); have n1_ := Aside0.mk (hbox); have n2_ := Aside0.mk ((by rw [hg]; exact (below_size (bel HB)) : w.heap.size ≤ gb365)); have n3_ := Aside0.mk ((by rw [hg]; exact (below_size (bel HB)) : w.heap.size ≤ gb365)); clear HB; have HB := n0_; have BK365 := n1_; have GW365 := n2_; have GE365 := n3_; clear n0_ n1_ n2_ n3_; clear hb hbox hg; have hcz8_0 : w7.cell? ⟨gb365, 0, none⟩ = some (.slice A0_0 l0_0.length c0_0) := (blk_cell BK365.out 0).trans rfl; have hfz8_0 := blk_frozen BK365.out 0) | ((with_reducible refine gate_callee (f := 34) rfl ?_); refine goesL_ (some 12) rfl rfl Try.func34 (by kernel_rfl) rfl #[.agg #[.slice A0_0 l0_0.length c0_0], .int .i64 a1] rfl gmp ?_; (with_reducible refine (impl_placeOf.calls k _ _ l0_0 a1 t366 t367 _ ?side1 ?side2 A3.out).mono ?_); (case side1 => exact cdl (Kd.C_below HR0_0.out HB.out)); (case side2 => exact HC0_0.out); rintro e w9 ⟨rfl, hb⟩; refine ⟨_, rfl, ?_⟩; have n0_ := Aside0.mk (blk_below (g := gb365) (o := .cells #[.slice A0_0 l0_0.length c0_0] 26 (0, 0)) (bkl BK365) hb); have n1_ := Aside0.mk (below_step (bel1 HB GE365) hb); clear BK365; clear HB; have BK365 := n0_; have HB := n1_; clear n0_ n1_; (try clear hb); (try clear hb2); (try clear hk); (try clear hi); have hcz10_0 : w9.cell? ⟨gb365, 0, none⟩ = some (.slice A0_0 l0_0.length c0_0) := (blk_cell BK365.out 0).trans rfl; have hfz10_0 := blk_frozen BK365.out 0) | ((with_reducible refine gate_callee (f := 28) rfl ?_); refine goesL_ (some 16) rfl rfl Try.func28 (by kernel_rfl) rfl #[.agg #[.slice A0_0 l0_0.length c0_0]] rfl gmp ?_; (with_reducible refine (impl_IsValidYard.calls _ _ l0_0 true _ ?side1 ?side2 A4.out).mono ?_); (case side1 => exact cdl (Kd.C_below HR0_0.out HB.out)); (case side2 => exact HC0_0.out); rintro e w11 ⟨rfl, hb⟩; refine ⟨_, rfl, ?_⟩; have n0_ := Aside0.mk (blk_below (g := gb365) (o := .cells #[.slice A0_0 l0_0.length c0_0] 26 (0, 0)) (bkl BK365) hb); have n1_ := Aside0.mk (below_step (bel1 HB GE365) hb); clear BK365; clear HB; have BK365 := n0_; have HB := n1_; clear n0_ n1_; (try clear hb); (try clear hb2); (try clear hk); (try clear hi)))
  go_ret3
  exact ⟨by first | rfl | (simp [errW_none, errW_some] <;> rfl) | (simp [*, errW_none, errW_some] <;> rfl), bel1 HB GE365⟩
 rw [if_neg c6] at H
 have c6b0 : decide (t366 < 0) = false := decide_eq_false c6
 clear c6
 simp only [Option.some.injEq, Prod.mk.injEq] at H
 obtain ⟨rfl, rfl, rfl⟩ := H
 go_enter Try.func14, Try.ntmps14
 go_wp2_with (first | ((with_reducible refine gate_dst (N := 2) rfl ?_); refine box_event ?hg (N := 2) ?hd (cs := #[.slice A0_0 l0_0.length c0_0]) (t := 26) ?hr ?_; (case hd => rfl); (case hg => rfl); (case hr => first | (go_simp; done) | (go_simp; rfl)); intro gb365 hg w12 hbox hb; have n0_ := Aside0.mk (below_step (bel HB) hb); have n1_ := Aside0.mk (hbox); have n2_ := Aside0.mk ((by rw [hg]; exact (below_size (bel HB)) : w.heap.size ≤ gb365)); have n3_ := Aside0.mk ((by rw [hg]; exact (below_size (bel HB)) : w.heap.size ≤ gb365)); clear HB; have HB := n0_; have BK365 := n1_; have GW365 := n2_; have GE365 := n3_; clear n0_ n1_ n2_ n3_; clear hb hbox hg; have hcz13_0 : w12.cell? ⟨gb365, 0, none⟩ = some (.slice A0_0 l0_0.length c0_0) := (blk_cell BK365.out 0).trans rfl; have hfz13_0 := blk_frozen BK365.out 0) | ((with_reducible refine gate_callee (f := 34) rfl ?_); refine goesL_ (some 12) rfl rfl Try.func34 (by kernel_rfl) rfl #[.agg #[.slice A0_0 l0_0.length c0_0], .int .i64 a1] rfl gmp ?_; (with_reducible refine (impl_placeOf.calls k _ _ l0_0 a1 t366 t367 _ ?side1 ?side2 A3.out).mono ?_); (case side1 => exact cdl (Kd.C_below HR0_0.out HB.out)); (case side2 => exact HC0_0.out); rintro e w14 ⟨rfl, hb⟩; refine ⟨_, rfl, ?_⟩; have n0_ := Aside0.mk (blk_below (g := gb365) (o := .cells #[.slice A0_0 l0_0.length c0_0] 26 (0, 0)) (bkl BK365) hb); have n1_ := Aside0.mk (below_step (bel1 HB GE365) hb); clear BK365; clear HB; have BK365 := n0_; have HB := n1_; clear n0_ n1_; (try clear hb); (try clear hb2); (try clear hk); (try clear hi); have hcz15_0 : w14.cell? ⟨gb365, 0, none⟩ = some (.slice A0_0 l0_0.length c0_0) := (blk_cell BK365.out 0).trans rfl; have hfz15_0 := blk_frozen BK365.out 0) | ((with_reducible refine gate_callee (f := 28) rfl ?_); refine goesL_ (some 16) rfl rfl Try.func28 (by kernel_rfl) rfl #[.agg #[.slice A0_0 l0_0.length c0_0]] rfl gmp ?_; (with_reducible refine (impl_IsValidYard.calls _ _ l0_0 true _ ?side1 ?side2 A4.out).mono ?_); (case side1 => exact cdl (Kd.C_below HR0_0.out HB.out)); (case side2 => exact HC0_0.out); rintro e w16 ⟨rfl, hb⟩; refine ⟨_, rfl, ?_⟩; have n0_ := Aside0.mk (blk_below (g := gb365) (o := .cells #[.slice A0_0 l0_0.length c0_0] 26 (0, 0)) (bkl BK365) hb); have n1_ := Aside0.mk (below_step (bel1 HB GE365) hb); clear BK365; clear HB; have BK365 := n0_; have HB := n1_; clear n0_ n1_; (try clear hb); (try clear hb2); (try clear hk); (try clear hi)))
 go_ret3
 exact ⟨by first | rfl | (simp [errW_none, errW_some] <;> rfl) | (simp [*, errW_none, errW_some] <;> rfl), bel1 HB GE365⟩
end Go.Proofs.Ytmggkimmnekhcaa.P
