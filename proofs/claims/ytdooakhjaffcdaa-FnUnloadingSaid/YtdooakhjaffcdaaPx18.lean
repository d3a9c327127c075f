-- Written by a program of this session over the translation (a variant of the printer, see wip/gen); Lean checks it.
import Derived.Test.YtdooakhjaffcdaaPx0
import Derived.Test.YtdooakhjaffcdaaPx1
import Derived.Test.YtdooakhjaffcdaaPx6
import Derived.Test.YtdooakhjaffcdaaPx8
import Derived.Test.YtdooakhjaffcdaaPx9
import Derived.Test.YtdooakhjaffcdaaPx10
import Derived.Test.YtdooakhjaffcdaaPx12
import Derived.Test.YtdooakhjaffcdaaPx15
import Derived.Test.YtdooakhjaffcdaaPx17
namespace Go.Proofs.Ytdooakhjaffcdaa.P
open Go.RowKit Go.Proofs.YtdooakhjaffcdaaW.PrintWords Go.Proofs.YtdooakhjaffcdaaW.PrintLast Go.Proofs.YtdooakhjaffcdaaW.PrintMore
attribute [local go_sem] Go.Proofs.Ytdooakhjaffcdaa.V.isSome_setCell max2_int min2_int max_two min_two max_three min_three max_four min_four
set_option linter.unusedVariables false
set_option linter.unusedSimpArgs false
/-! ### impl_BayBalance: function 11 -/
def impl_BayBalance.l0 : Nat → Int → Int → List (List Int) → Int → Int → Option (Int × Bool)
 | 0, _, _, _, _, _ => none
 | k + 1, x4, x5, x15, x16, x17 => if x17 < x16 then (if 0 ≤ x17 then (if x17 < (x15.length : Int) then (if x17 < (wrap64 (Int.tdiv x4 2)) then (impl_BayBalance.l0 k x4 (wrap64 (x5 - ((rd_L2 x15 x17).length : Int))) x15 x16 (wrap64 (x17 + 1))) else (if x17 ≥ (wrap64 (x4 - (wrap64 (Int.tdiv x4 2)))) then (impl_BayBalance.l0 k x4 (wrap64 (x5 + ((rd_L2 x15 x17).length : Int))) x15 x16 (wrap64 (x17 + 1))) else (impl_BayBalance.l0 k x4 x5 x15 x16 (wrap64 (x17 + 1))))) else (none)) else (none)) else (some (x5, true))
def impl_BayBalance.f (k : Nat) (a0_0 : Int) (l0_1 : List (List Int)) : Option (Int × Bool) := (impl_IsValidBay.f a0_0 l0_1).bind fun t362 => (if t362 = true then (impl_BayBalance.l0 k (l0_1.length : Int) 0 l0_1 (l0_1.length : Int) 0) else (some (0, false)))
theorem impl_BayBalance.mono_l : ∀ k, (∀ y0 y1 y2 y3 y4, LeO (impl_BayBalance.l0 k y0 y1 y2 y3 y4) (impl_BayBalance.l0 (k + 1) y0 y1 y2 y3 y4))
 | 0 => fun _ _ _ _ _ r h => by simp [impl_BayBalance.l0] at h
 | k + 1 => by
  have ih0 := impl_BayBalance.mono_l k
  ·intro y0 y1 y2 y3 y4
   unfold impl_BayBalance.l0
   repeat' first
   | (with_reducible exact ih0 _ _ _ _ _)
   | (with_reducible exact LeO.refl _)
   | (with_reducible exact LeO.none _)
   | (with_reducible refine LeO.ite ?_ ?_)
   | (with_reducible refine LeO.bind ?_ (fun _ => ?_))
   | exact ih0 _ _ _ _ _
   | exact LeO.none _
   | refine LeO.ite ?_ ?_
   | refine LeO.bind ?_ (fun _ => ?_)
theorem impl_BayBalance.mono : ∀ a0 a1 k, LeO (impl_BayBalance.f k a0 a1) (impl_BayBalance.f (k + 1) a0 a1) := by
 intro a0 a1 k
 have ih0 := impl_BayBalance.mono_l k
 unfold impl_BayBalance.f
 repeat' first
   | (with_reducible exact ih0 _ _ _ _ _)
   | (with_reducible exact LeO.refl _)
   | (with_reducible exact LeO.none _)
   | (with_reducible refine LeO.ite ?_ ?_)
   | (with_reducible refine LeO.bind ?_ (fun _ => ?_))
   | exact ih0 _ _ _ _ _
   | exact LeO.none _
   | refine LeO.ite ?_ ?_
   | refine LeO.bind ?_ (fun _ => ?_)
set_option maxHeartbeats 8000000 in
set_option maxRecDepth 100000 in
theorem impl_BayBalance.calls (k : Nat) (a0_0 : Int) (A0_1 : Option Addr) (c0_1 : Nat) (l0_1 : List (List Int)) (r1 : Int) (r2 : Bool) (w : World) (hr0_1 : Kd.C (Kd.slice 3 (Kd.int .i64)) w A0_1 l0_1.length l0_1) (hc0_1 : l0_1.length ≤ c0_1) (h : impl_BayBalance.f k a0_0 l0_1 = some (r1, r2)) :
  Calls Try.prog 11 #[.agg #[.int .i64 a0_0, .slice A0_1 l0_1.length c0_1]] w fun e w' => e = .returned (.tuple #[.int .i64 r1, .bool r2]) ∧ Below w.heap.size w w' := by
 have hu26 := Try.underlying26
 have HR0_1 := Aside0.mk hr0_1
 have HC0_1 := Aside0.mk hc0_1
 clear hr0_1 hc0_1
 have HB := Aside0.mk (Below.refl w.heap.size w)
 have H : ((impl_IsValidBay.f a0_0 l0_1).bind fun t362 => (if t362 = true then (impl_BayBalance.l0 k (l0_1.length : Int) 0 l0_1 (l0_1.length : Int) 0) else (some (0, false)))) = some (r1, r2) := h
 clear h
 replace H := Option.bind_eq_some_iff.mp H
 obtain ⟨t362, A20, H⟩ := H
 replace H : (if t362 = true then (impl_BayBalance.l0 k (l0_1.length : Int) 0 l0_1 (l0_1.length : Int) 0) else (some (0, false))) = some (r1, r2) := H
 have A2 := Aside0.mk A20
 clear A20
 by_cases c3 : t362 = true
 rotate_left
 ·replace c3 := Bool.eq_false_iff.mpr c3
  subst c3
  have H1 : (some (0, false)) = some (r1, r2) := by rw [if_neg (show ¬ (false = true) by decide)] at H; exact H
  clear H
  have H := H1
  clear H1
  simp only [Option.some.injEq, Prod.mk.injEq] at H
  obtain ⟨rfl, rfl⟩ := H
  go_enter Try.func11, Try.ntmps11
  go_wp2_with (first | ((with_reducible refine gate_dst (N := 1) rfl ?_); refine box_event ?hg (N := 1) ?hd (cs := #[.int .i64 a0_0, .slice A0_1 l0_1.length c0_1]) (t := 26) ?hr ?_; (case hd => rfl); (case hg => rfl); (case hr => first | (go_simp; done) | (go_simp; rfl)); intro gb361 hg w13 hbox hb; have n0_ := Aside0.mk (below_step (bel HB) hb); have n1_ := Aside0.mk (hbox); have n2_ := Aside0.mk ((by rw [hg]; exact (below_size (bel HB)) : w.heap.size ≤ gb361)); have n3_ := Aside0.mk ((by rw [hg]; exact (below_size (bel HB)) : w.heap.size ≤ gb361)); clear HB; have HB := n0_; have BK361 := n1_; have GW361 := n2_; have GE361 := n3_; clear n0_ n1_ n2_ n3_; clear hb hbox hg; have hcz14_0 : w13.cell? ⟨gb361, 0, none⟩ = some (.int .i64 a0_0) := (blk_cell BK361.out 0).trans rfl; have hcz14_1 : w13.cell? ⟨gb361, 1, none⟩ = some (.slice A0_1 l0_1.length c0_1) := (blk_cell BK361.out 1).trans rfl; have hfz14_0 := blk_frozen BK361.out 0; have hfz14_1 := blk_frozen BK361.out 1) | ((with_reducible refine gate_callee (f := 15) rfl ?_); refine goesL_ (some 9) rfl rfl Try.func15 (by kernel_rfl) rfl #[.agg #[.int .i64 a0_0, .slice A0_1 l0_1.length c0_1]] rfl gmp ?_; (with_reducible refine (impl_IsValidBay.calls a0_0 _ _ l0_1 false _ ?side1 ?side2 A2.out).mono ?_); (case side1 => exact cdl (Kd.C_below HR0_1.out HB.out)); (case side2 => exact HC0_1.out); rintro e w15 ⟨rfl, hb⟩; refine ⟨_, rfl, ?_⟩; have n0_ := Aside0.mk (blk_below (g := gb361) (o := .cells #[.int .i64 a0_0, .slice A0_1 l0_1.length c0_1] 26 (0, 0)) (bkl BK361) hb); have n1_ := Aside0.mk (below_step (bel1 HB GE361) hb); clear BK361; clear HB; have BK361 := n0_; have HB := n1_; clear n0_ n1_; (try clear hb); (try clear hb2); (try clear hk); (try clear hi)))
  go_ret2
  exact ⟨by first | rfl | (simp [errW_none, errW_some] <;> rfl) | (simp [*, errW_none, errW_some] <;> rfl), bel1 HB GE361⟩
 subst c3
 have H1 : (impl_BayBalance.l0 k (l0_1.length : Int) 0 l0_1 (l0_1.length : Int) 0) = some (r1, r2) := by rw [if_pos rfl] at H; exact H
 clear H
 have H := H1
 clear H1
 have H' := Aside0.mk H
 clear H
 go_enter Try.func11, Try.ntmps11
 go_wp2_with (first | ((with_reducible refine gate_dst (N := 1) rfl ?_); refine box_event ?hg (N := 1) ?hd (cs := #[.int .i64 a0_0, .slice A0_1 l0_1.length c0_1]) (t := 26) ?hr ?_; (case hd => rfl); (case hg => rfl); (case hr => first | (go_simp; done) | (go_simp; rfl)); intro gb361 hg w4 hbox hb; have n0_ := Aside0.mk (below_step (bel HB) hb); have n1_ := Aside0.mk (hbox); have n2_ := Aside0.mk ((by rw [hg]; exact (below_size (bel HB)) : w.heap.size ≤ gb361)); have n3_ := Aside0.mk ((by rw [hg]; exact (below_size (bel HB)) : w.heap.size ≤ gb361)); clear HB; have HB := n0_; have BK361 := n1_; have GW361 := n2_; have GE361 := n3_; clear n0_ n1_ n2_ n3_; clear hb hbox hg; have hcz5_0 : w4.cell? ⟨gb361, 0, none⟩ = some (.int .i64 a0_0) := (blk_cell BK361.out 0).trans rfl; have hcz5_1 : w4.cell? ⟨gb361, 1, none⟩ = some (.slice A0_1 l0_1.length c0_1) := (blk_cell BK361.out 1).trans rfl; have hfz5_0 := blk_frozen BK361.out 0; have hfz5_1 := blk_frozen BK361.out 1) | ((with_reducible refine gate_callee (f := 15) rfl ?_); refine goesL_ (some 9) rfl rfl Try.func15 (by kernel_rfl) rfl #[.agg #[.int .i64 a0_0, .slice A0_1 l0_1.length c0_1]] rfl gmp ?_; (with_reducible refine (impl_IsValidBay.calls a0_0 _ _ l0_1 true _ ?side1 ?side2 A2.out).mono ?_); (case side1 => exact cdl (Kd.C_below HR0_1.out HB.out)); (case side2 => exact HC0_1.out); rintro e w6 ⟨rfl, hb⟩; refine ⟨_, rfl, ?_⟩; have n0_ := Aside0.mk (blk_below (g := gb361) (o := .cells #[.int .i64 a0_0, .slice A0_1 l0_1.length c0_1] 26 (0, 0)) (bkl BK361) hb); have n1_ := Aside0.mk (below_step (bel1 HB GE361) hb); clear BK361; clear HB; have BK361 := n0_; have HB := n1_; clear n0_ n1_; (try clear hb); (try clear hb2); (try clear hk); (try clear hi); have hcz7_0 : w6.cell? ⟨gb361, 0, none⟩ = some (.int .i64 a0_0) := (blk_cell BK361.out 0).trans rfl; have hcz7_1 : w6.cell? ⟨gb361, 1, none⟩ = some (.slice A0_1 l0_1.length c0_1) := (blk_cell BK361.out 1).trans rfl; have hfz7_0 := blk_frozen BK361.out 0; have hfz7_1 := blk_frozen BK361.out 1))
 go_loopg [5, 17] k (fun kq v5 v17 w' => ∃ (x5_1 : Int) (x17_1 : Int), v5 = .int .i64 x5_1 ∧ v17 = .int .i64 x17_1 ∧ Aside0 (impl_BayBalance.l0 kq (l0_1.length : Int) x5_1 l0_1 (l0_1.length : Int) x17_1 = some (r1, r2)) ∧ Aside0 (kq ≤ k) ∧ Aside0 (w'.heap[gb361]? = some (.cells #[.int .i64 a0_0, (.slice A0_1 l0_1.length c0_1)] 26 (0, 0))) ∧ Aside0 (Below w.heap.size w w'))
 case atStart => exact ⟨(0), (0), (by first | rfl | (simp; done) | (simp [*]; done)), (by first | rfl | (simp; done) | (simp [*]; done)), H', ⟨Nat.le_refl _⟩, ⟨bkl BK361⟩, ⟨bel1 HB GE361⟩⟩
 clear H'
 try clear c1
 try clear p2
 try clear c3
 try clear hcz5_0
 try clear hcz5_1
 try clear hcz7_0
 try clear hcz7_1
 try clear hfz5_0
 try clear hfz5_1
 try clear hfz7_0
 try clear hfz7_1
 obtain ⟨x5_1, x17_1, rfl, rfl, HA, HK1, BK361, HB⟩ := hrel
 cases gk with
 | zero => exact absurd HA.out (by simp [impl_BayBalance.l0])
 | succ k1 =>
  have H := HA.out
  clear HA
  simp only [impl_BayBalance.l0] at H
  by_cases c8 : x17_1 < (l0_1.length : Int)
  rotate_left
  ·rw [if_neg c8] at H
   have c8b0 : decide (x17_1 < (l0_1.length : Int)) = false := decide_eq_false c8
   clear c8
   simp only [Option.some.injEq, Prod.mk.injEq] at H
   obtain ⟨rfl, rfl⟩ := H
   go_wp2
   go_ret2
   exact ⟨by first | rfl | (simp [errW_none, errW_some] <;> rfl) | (simp [*, errW_none, errW_some] <;> rfl), bel1 HB GE361⟩
  rw [if_pos c8] at H
  have c8b0 : decide (x17_1 < (l0_1.length : Int)) = true := decide_eq_true c8
  clear c8
  by_cases c9 : 0 ≤ x17_1
  rotate_left
  ·rw [if_neg c9] at H
   exact absurd H (by simp)
  rw [if_pos c9] at H
  have c9b0 : decide (0 ≤ x17_1) = true := decide_eq_true c9
  clear c9
  by_cases c10 : x17_1 < (l0_1.length : Int)
  rotate_left
  ·rw [if_neg c10] at H
   exact absurd H (by simp)
  rw [if_pos c10] at H
  have c10b0 : decide (x17_1 < (l0_1.length : Int)) = true := decide_eq_true c10
  clear c10
  by_cases c11 : x17_1 < (wrap64 (Int.tdiv (l0_1.length : Int) 2))
  ·rw [if_pos c11] at H
   have c11b0 : decide (x17_1 < (wrap64 (Int.tdiv (l0_1.length : Int) 2))) = true := decide_eq_true c11
   have c11b8 : decide (x17_1 < (wrap64 ((l0_1.length : Int) / 2))) = true := by have e_ : Int.tdiv (l0_1.length : Int) 2 = (l0_1.length : Int) / 2 := Int.tdiv_eq_ediv_of_nonneg (by omega); have h_ := c11b0; rw [e_] at h_; exact h_
   clear c11
   have H' := Aside0.mk H
   clear H
   have p363 : 0 ≤ (x17_1 : Int) := oda
   have q363 : x17_1 < (l0_1.length : Int) := oda
   obtain ⟨ad363, A363_0, c363_0, e363, hx363_0, hl363_0, hi363_0⟩ := at_L2 HR0_1.out x17_1 p363 q363
   cases e363
   replace hx363_0 := cel HB hx363_0
   have HR363_0 := Aside0.mk hi363_0
   have HC363_0 := Aside0.mk hl363_0
   clear hi363_0 hl363_0
   replace p363 := eq_true p363
   replace q363 := eq_true q363
   go_wp2
   go_roundg k1
   case measure => have := HK1.out; omega
   case rel => exact ⟨(wrap64 (x5_1 - ((rd_L2 l0_1 x17_1).length : Int))), (wrap64 (x17_1 + 1)), (by first | rfl | (simp; done) | (simp [*]; done)), (by first | rfl | (simp; done) | (simp [*]; done)), H', ⟨by have := HK1.out; omega⟩, ⟨bkl BK361⟩, ⟨bel1 HB GE361⟩⟩
  rw [if_neg c11] at H
  have c11b0 : decide (x17_1 < (wrap64 (Int.tdiv (l0_1.length : Int) 2))) = false := decide_eq_false c11
  have c11b8 : decide (x17_1 < (wrap64 ((l0_1.length : Int) / 2))) = false := by have e_ : Int.tdiv (l0_1.length : Int) 2 = (l0_1.length : Int) / 2 := Int.tdiv_eq_ediv_of_nonneg (by omega); have h_ := c11b0; rw [e_] at h_; exact h_
  clear c11
  by_cases c12 : x17_1 ≥ (wrap64 ((l0_1.length : Int) - (wrap64 (Int.tdiv (l0_1.length : Int) 2))))
  rotate_left
  ·rw [if_neg c12] at H
   have c12b0 : decide ((wrap64 ((l0_1.length : Int) - (wrap64 (Int.tdiv (l0_1.length : Int) 2)))) ≤ x17_1) = false := decide_eq_false c12
   have c12b8 : decide ((wrap64 ((l0_1.length : Int) - (wrap64 ((l0_1.length : Int) / 2)))) ≤ x17_1) = false := by have e_ : Int.tdiv (l0_1.length : Int) 2 = (l0_1.length : Int) / 2 := Int.tdiv_eq_ediv_of_nonneg (by omega); have h_ := c12b0; rw [e_] at h_; exact h_
   clear c12
   have H' := Aside0.mk H
   clear H
   have p363 : 0 ≤ (x17_1 : Int) := oda
   have q363 : x17_1 < (l0_1.length : Int) := oda
   obtain ⟨ad363, A363_0, c363_0, e363, hx363_0, hl363_0, hi363_0⟩ := at_L2 HR0_1.out x17_1 p363 q363
   cases e363
   replace hx363_0 := cel HB hx363_0
   have HR363_0 := Aside0.mk hi363_0
   have HC363_0 := Aside0.mk hl363_0
   clear hi363_0 hl363_0
   replace p363 := eq_true p363
   replace q363 := eq_true q363
   go_wp2
   go_roundg k1
   case measure => have := HK1.out; omega
   case rel => exact ⟨(x5_1), (wrap64 (x17_1 + 1)), (by first | rfl | (simp; done) | (simp [*]; done)), (by first | rfl | (simp; done) | (simp [*]; done)), H', ⟨by have := HK1.out; omega⟩, ⟨bkl BK361⟩, ⟨bel1 HB GE361⟩⟩
  rw [if_pos c12] at H
  have c12b0 : decide ((wrap64 ((l0_1.length : Int) - (wrap64 (Int.tdiv (l0_1.length : Int) 2)))) ≤ x17_1) = true := decide_eq_true c12
  have c12b8 : decide ((wrap64 ((l0_1.length : Int) - (wrap64 ((l0_1.length : Int) / 2)))) ≤ x17_1) = true := by have e_ : Int.tdiv (l0_1.length : Int) 2 = (l0_1.length : Int) / 2 := Int.tdiv_eq_ediv_of_nonneg (by omega); have h_ := c12b0; rw [e_] at h_; exact h_
  clear c12
  have H' := Aside0.mk H
  clear H
  have p363 : 0 ≤ (x17_1 : Int) := oda
  have q363 : x17_1 < (l0_1.length : Int) := oda
  obtain ⟨ad363, A363_0, c363_0, e363, hx363_0, hl363_0, hi363_0⟩ := at_L2 HR0_1.out x17_1 p363 q363
  cases e363
  replace hx363_0 := cel HB hx363_0
  have HR363_0 := Aside0.mk hi363_0
  have HC363_0 := Aside0.mk hl363_0
  clear hi363_0 hl363_0
  replace p363 := eq_true p363
  replace q363 := eq_true q363
  go_wp2
  go_roundg k1
  case measure => have := HK1.out; omega
  case rel => exact ⟨(wrap64 (x5_1 + ((rd_L2 l0_1 x17_1).length : Int))), (wrap64 (x17_1 + 1)), (by first | rfl | (simp; done) | (simp [*]; done)), (by first | rfl | (simp; done) | (simp [*]; done)), H', ⟨by have := HK1.out; omega⟩, ⟨bkl BK361⟩, ⟨bel1 HB GE361⟩⟩
/-! ### spec_BayBalance: function 12 -/
def spec_BayBalance.l0 : Nat → Int → Int → Int → Int → List (List Int) → Option (Int × Bool)
 | 0, _, _, _, _, _ => none
 | k + 1, x4, x5, x6, x365000, x365001 => if x6 < x5 then (if (wrap64 ((wrap64 (2 * x6)) + 1)) < x5 then (if 0 ≤ x6 then (if x6 < (x365001.length : Int) then (spec_BayBalance.l0 k (wrap64 (x4 - ((rd_L2 x365001 x6).length : Int))) x5 (wrap64 (x6 + 1)) x365000 x365001) else (none)) else (none)) else (if (wrap64 ((wrap64 (2 * x6)) + 1)) > x5 then (if 0 ≤ x6 then (if x6 < (x365001.length : Int) then (spec_BayBalance.l0 k (wrap64 (x4 + ((rd_L2 x365001 x6).length : Int))) x5 (wrap64 (x6 + 1)) x365000 x365001) else (none)) else (none)) else (spec_BayBalance.l0 k x4 x5 (wrap64 (x6 + 1)) x365000 x365001))) else (some (x4, true))
def spec_BayBalance.f (k : Nat) (a0_0 : Int) (l0_1 : List (List Int)) : Option (Int × Bool) := (spec_l9Good.f k a0_0 l0_1).bind fun t365 => (if t365 = true then (spec_BayBalance.l0 k 0 (l0_1.length : Int) 0 a0_0 l0_1) else (some (0, false)))
theorem spec_BayBalance.mono_l : ∀ k, (∀ y0 y1 y2 y3 y4, LeO (spec_BayBalance.l0 k y0 y1 y2 y3 y4) (spec_BayBalance.l0 (k + 1) y0 y1 y2 y3 y4))
 | 0 => fun _ _ _ _ _ r h => by simp [spec_BayBalance.l0] at h
 | k + 1 => by
  have ih0 := spec_BayBalance.mono_l k
  ·intro y0 y1 y2 y3 y4
   unfold spec_BayBalance.l0
   repeat' first
   | (with_reducible exact ih0 _ _ _ _ _)
   | (with_reducible exact spec_l9Good.mono _ _ _)
   | (with_reducible exact LeO.refl _)
   | (with_reducible exact LeO.none _)
   | (with_reducible refine LeO.ite ?_ ?_)
   | (with_reducible refine LeO.bind ?_ (fun _ => ?_))
   | exact ih0 _ _ _ _ _
   | exact spec_l9Good.mono _ _ _
   | exact LeO.none _
   | refine LeO.ite ?_ ?_
   | refine LeO.bind ?_ (fun _ => ?_)
theorem spec_BayBalance.mono : ∀ a0 a1 k, LeO (spec_BayBalance.f k a0 a1) (spec_BayBalance.f (k + 1) a0 a1) := by
 intro a0 a1 k
 have ih0 := spec_BayBalance.mono_l k
 unfold spec_BayBalance.f
 repeat' first
   | (with_reducible exact ih0 _ _ _ _ _)
   | (with_reducible exact spec_l9Good.mono _ _ _)
   | (with_reducible exact LeO.refl _)
   | (with_reducible exact LeO.none _)
   | (with_reducible refine LeO.ite ?_ ?_)
   | (with_reducible refine LeO.bind ?_ (fun _ => ?_))
   | exact ih0 _ _ _ _ _
   | exact spec_l9Good.mono _ _ _
   | exact LeO.none _
   | refine LeO.ite ?_ ?_
   | refine LeO.bind ?_ (fun _ => ?_)
set_option maxHeartbeats 8000000 in
set_option maxRecDepth 100000 in
theorem spec_BayBalance.calls (k : Nat) (a0_0 : Int) (A0_1 : Option Addr) (c0_1 : Nat) (l0_1 : List (List Int)) (r1 : Int) (r2 : Bool) (w : World) (hr0_1 : Kd.C (Kd.slice 3 (Kd.int .i64)) w A0_1 l0_1.length l0_1) (hc0_1 : l0_1.length ≤ c0_1) (h : spec_BayBalance.f k a0_0 l0_1 = some (r1, r2)) :
  Calls Try.prog 12 #[.agg #[.int .i64 a0_0, .slice A0_1 l0_1.length c0_1]] w fun e w' => e = .returned (.tuple #[.int .i64 r1, .bool r2]) ∧ Below w.heap.size w w' := by
 have hu26 := Try.underlying26
 have HR0_1 := Aside0.mk hr0_1
 have HC0_1 := Aside0.mk hc0_1
 clear hr0_1 hc0_1
 have HB := Aside0.mk (Below.refl w.heap.size w)
 have H : ((spec_l9Good.f k a0_0 l0_1).bind fun t365 => (if t365 = true then (spec_BayBalance.l0 k 0 (l0_1.length : Int) 0 a0_0 l0_1) else (some (0, false)))) = some (r1, r2) := h
 clear h
 replace H := Option.bind_eq_some_iff.mp H
 obtain ⟨t365, A20, H⟩ := H
 replace H : (if t365 = true then (spec_BayBalance.l0 k 0 (l0_1.length : Int) 0 a0_0 l0_1) else (some (0, false))) = some (r1, r2) := H
 have A2 := Aside0.mk A20
 clear A20
 by_cases c3 : t365 = true
 rotate_left
 ·replace c3 := Bool.eq_false_iff.mpr c3
  subst c3
  have H1 : (some (0, false)) = some (r1, r2) := by rw [if_neg (show ¬ (false = true) by decide)] at H; exact H
  clear H
  have H := H1
  clear H1
  simp only [Option.some.injEq, Prod.mk.injEq] at H
  obtain ⟨rfl, rfl⟩ := H
  go_enter Try.func12, Try.ntmps12
  go_wp2_with (first | ((with_reducible refine gate_dst (N := 1) rfl ?_); refine box_event ?hg (N := 1) ?hd (cs := #[.int .i64 a0_0, .slice A0_1 l0_1.length c0_1]) (t := 26) ?hr ?_; (case hd => rfl); (case hg => rfl); (case hr => first | (go_simp; done) | (go_simp; rfl)); intro gb364 hg w17 hbox hb; have n0_ := Aside0.mk (below_step (bel HB) hb); have n1_ := Aside0.mk (hbox); have n2_ := Aside0.mk ((by rw [hg]; exact (below_size (bel HB)) : w.heap.size ≤ gb364)); have n3_ := Aside0.mk ((by rw [hg]; exact (below_size (bel HB)) : w.heap.size ≤ gb364)); clear HB; have HB := n0_; have BK364 := n1_; have GW364 := n2_; have GE364 := n3_; clear n0_ n1_ n2_ n3_; clear hb hbox hg; have hcz18_0 : w17.cell? ⟨gb364, 0, none⟩ = some (.int .i64 a0_0) := (blk_cell BK364.out 0).trans rfl; have hcz18_1 : w17.cell? ⟨gb364, 1, none⟩ = some (.slice A0_1 l0_1.length c0_1) := (blk_cell BK364.out 1).trans rfl; have hfz18_0 := blk_frozen BK364.out 0; have hfz18_1 := blk_frozen BK364.out 1) | ((with_reducible refine gate_callee (f := 18) rfl ?_); refine goesL_ (some 8) rfl rfl Try.func18 (by kernel_rfl) rfl #[.agg #[.int .i64 a0_0, .slice A0_1 l0_1.length c0_1]] rfl gmp ?_; (with_reducible refine (spec_l9Good.calls k a0_0 _ _ l0_1 false _ ?side1 ?side2 A2.out).mono ?_); (case side1 => exact cdl (Kd.C_below HR0_1.out HB.out)); (case side2 => exact HC0_1.out); rintro e w19 ⟨rfl, hb⟩; refine ⟨_, rfl, ?_⟩; have n0_ := Aside0.mk (blk_below (g := gb364) (o := .cells #[.int .i64 a0_0, .slice A0_1 l0_1.length c0_1] 26 (0, 0)) (bkl BK364) hb); have n1_ := Aside0.mk (below_step (bel1 HB GE364) hb); clear BK364; clear HB; have BK364 := n0_; have HB := n1_; clear n0_ n1_; (try clear hb); (try clear hb2); (try clear hk); (try clear hi)))
  go_ret2
  exact ⟨by first | rfl | (simp [errW_none, errW_some] <;> rfl) | (simp [*, errW_none, errW_some] <;> rfl), bel1 HB GE364⟩
 subst c3
 have H1 : (spec_BayBalance.l0 k 0 (l0_1.length : Int) 0 a0_0 l0_1) = some (r1, r2) := by rw [if_pos rfl] at H; exact H
 clear H
 have H := H1
 clear H1
 have H' := Aside0.mk H
 clear H
 go_enter Try.func12, Try.ntmps12
 go_wp2_with (first | ((with_reducible refine gate_dst (N := 1) rfl ?_); refine box_event ?hg (N := 1) ?hd (cs := #[.int .i64 a0_0, .slice A0_1 l0_1.length c0_1]) (t := 26) ?hr ?_; (case hd => rfl); (case hg => rfl); (case hr => first | (go_simp; done) | (go_simp; rfl)); intro gb364 hg w4 hbox hb; have n0_ := Aside0.mk (below_step (bel HB) hb); have n1_ := Aside0.mk (hbox); have n2_ := Aside0.mk ((by rw [hg]; exact (below_size (bel HB)) : w.heap.size ≤ gb364)); have n3_ := Aside0.mk ((by rw [hg]; exact (below_size (bel HB)) : w.heap.size ≤ gb364)); clear HB; have HB := n0_; have BK364 := n1_; have GW364 := n2_; have GE364 := n3_; clear n0_ n1_ n2_ n3_; clear hb hbox hg; have hcz5_0 : w4.cell? ⟨gb364, 0, none⟩ = some (.int .i64 a0_0) := (blk_cell BK364.out 0).trans rfl; have hcz5_1 : w4.cell? ⟨gb364, 1, none⟩ = some (.slice A0_1 l0_1.length c0_1) := (blk_cell BK364.out 1).trans rfl; have hfz5_0 := blk_frozen BK364.out 0; have hfz5_1 := blk_frozen BK364.out 1) | ((with_reducible refine gate_callee (f := 18) rfl ?_); refine goesL_ (some 8) rfl rfl Try.func18 (by kernel_rfl) rfl #[.agg #[.int .i64 a0_0, .slice A0_1 l0_1.length c0_1]] rfl gmp ?_; (with_reducible refine (spec_l9Good.calls k a0_0 _ _ l0_1 true _ ?side1 ?side2 A2.out).mono ?_); (case side1 => exact cdl (Kd.C_below HR0_1.out HB.out)); (case side2 => exact HC0_1.out); rintro e w6 ⟨rfl, hb⟩; refine ⟨_, rfl, ?_⟩; have n0_ := Aside0.mk (blk_below (g := gb364) (o := .cells #[.int .i64 a0_0, .slice A0_1 l0_1.length c0_1] 26 (0, 0)) (bkl BK364) hb); have n1_ := Aside0.mk (below_step (bel1 HB GE364) hb); clear BK364; clear HB; have BK364 := n0_; have HB := n1_; clear n0_ n1_; (try clear hb); (try clear hb2); (try clear hk); (try clear hi); have hcz7_0 : w6.cell? ⟨gb364, 0, none⟩ = some (.int .i64 a0_0) := (blk_cell BK364.out 0).trans rfl; have hcz7_1 : w6.cell? ⟨gb364, 1, none⟩ = some (.slice A0_1 l0_1.length c0_1) := (blk_cell BK364.out 1).trans rfl; have hfz7_0 := blk_frozen BK364.out 0; have hfz7_1 := blk_frozen BK364.out 1))
 go_loopg [4, 6] k (fun kq v4 v6 w' => ∃ (x4_1 : Int) (x6_1 : Int), v4 = .int .i64 x4_1 ∧ v6 = .int .i64 x6_1 ∧ Aside0 (spec_BayBalance.l0 kq x4_1 (l0_1.length : Int) x6_1 a0_0 l0_1 = some (r1, r2)) ∧ Aside0 (kq ≤ k) ∧ Aside0 (w'.heap[gb364]? = some (.cells #[.int .i64 a0_0, (.slice A0_1 l0_1.length c0_1)] 26 (0, 0))) ∧ Aside0 (Below w.heap.size w w'))
 case atStart => exact ⟨(0), (0), (by first | rfl | (simp; done) | (simp [*]; done)), (by first | rfl | (simp; done) | (simp [*]; done)), H', ⟨Nat.le_refl _⟩, ⟨bkl BK364⟩, ⟨bel1 HB GE364⟩⟩
 clear H'
 try clear c1
 try clear p2
 try clear c3
 try clear hcz5_0
 try clear hcz5_1
 try clear hcz7_0
 try clear hcz7_1
 try clear hfz5_0
 try clear hfz5_1
 try clear hfz7_0
 try clear hfz7_1
 obtain ⟨x4_1, x6_1, rfl, rfl, HA, HK1, BK364, HB⟩ := hrel
 cases gk with
 | zero => exact absurd HA.out (by simp [spec_BayBalance.l0])
 | succ k1 =>
  have H := HA.out
  clear HA
  simp only [spec_BayBalance.l0] at H
  by_cases c8 : x6_1 < (l0_1.length : Int)
  rotate_left
  ·rw [if_neg c8] at H
   have c8b0 : decide (x6_1 < (l0_1.length : Int)) = false := decide_eq_false c8
   clear c8
   simp only [Option.some.injEq, Prod.mk.injEq] at H
   obtain ⟨rfl, rfl⟩ := H
   go_wp2
   go_ret2
   exact ⟨by first | rfl | (simp [errW_none, errW_some] <;> rfl) | (simp [*, errW_none, errW_some] <;> rfl), bel1 HB GE364⟩
  rw [if_pos c8] at H
  have c8b0 : decide (x6_1 < (l0_1.length : Int)) = true := decide_eq_true c8
  clear c8
  by_cases c9 : (wrap64 ((wrap64 (2 * x6_1)) + 1)) < (l0_1.length : Int)
  ·rw [if_pos c9] at H
   have c9b0 : decide ((wrap64 ((wrap64 (2 * x6_1)) + 1)) < (l0_1.length : Int)) = true := decide_eq_true c9
   clear c9
   by_cases c10 : 0 ≤ x6_1
   rotate_left
   ·rw [if_neg c10] at H
    exact absurd H (by simp)
   rw [if_pos c10] at H
   have c10b0 : decide (0 ≤ x6_1) = true := decide_eq_true c10
   clear c10
   by_cases c11 : x6_1 < (l0_1.length : Int)
   rotate_left
   ·rw [if_neg c11] at H
    exact absurd H (by simp)
   rw [if_pos c11] at H
   have c11b0 : decide (x6_1 < (l0_1.length : Int)) = true := decide_eq_true c11
   clear c11
   have H' := Aside0.mk H
   clear H
   have hcz12_0 : wr.cell? ⟨gb364, 0, none⟩ = some (.int .i64 a0_0) := (blk_cell BK364.out 0).trans rfl
   have hcz12_1 : wr.cell? ⟨gb364, 1, none⟩ = some (.slice A0_1 l0_1.length c0_1) := (blk_cell BK364.out 1).trans rfl
   have hfz12_0 := blk_frozen BK364.out 0
   have hfz12_1 := blk_frozen BK364.out 1
   have p366 : 0 ≤ (x6_1 : Int) := oda
   have q366 : x6_1 < (l0_1.length : Int) := oda
   obtain ⟨ad366, A366_0, c366_0, e366, hx366_0, hl366_0, hi366_0⟩ := at_L2 HR0_1.out x6_1 p366 q366
   cases e366
   replace hx366_0 := cel HB hx366_0
   have HR366_0 := Aside0.mk hi366_0
   have HC366_0 := Aside0.mk hl366_0
   clear hi366_0 hl366_0
   replace p366 := eq_true p366
   replace q366 := eq_true q366
   go_wp2
   go_roundg k1
   case measure => have := HK1.out; omega
   case rel => exact ⟨(wrap64 (x4_1 - ((rd_L2 l0_1 x6_1).length : Int))), (wrap64 (x6_1 + 1)), (by first | rfl | (simp; done) | (simp [*]; done)), (by first | rfl | (simp; done) | (simp [*]; done)), H', ⟨by have := HK1.out; omega⟩, ⟨bkl BK364⟩, ⟨bel1 HB GE364⟩⟩
  rw [if_neg c9] at H
  have c9b0 : decide ((wrap64 ((wrap64 (2 * x6_1)) + 1)) < (l0_1.length : Int)) = false := decide_eq_false c9
  clear c9
  by_cases c13 : (wrap64 ((wrap64 (2 * x6_1)) + 1)) > (l0_1.length : Int)
  rotate_left
  ·rw [if_neg c13] at H
   have c13b0 : decide ((l0_1.length : Int) < (wrap64 ((wrap64 (2 * x6_1)) + 1))) = false := decide_eq_false c13
   clear c13
   have H' := Aside0.mk H
   clear H
   go_wp2
   go_roundg k1
   case measure => have := HK1.out; omega
   case rel => exact ⟨(x4_1), (wrap64 (x6_1 + 1)), (by first | rfl | (simp; done) | (simp [*]; done)), (by first | rfl | (simp; done) | (simp [*]; done)), H', ⟨by have := HK1.out; omega⟩, ⟨bkl BK364⟩, ⟨bel1 HB GE364⟩⟩
  rw [if_pos c13] at H
  have c13b0 : decide ((l0_1.length : Int) < (wrap64 ((wrap64 (2 * x6_1)) + 1))) = true := decide_eq_true c13
  clear c13
  by_cases c14 : 0 ≤ x6_1
  rotate_left
  ·rw [if_neg c14] at H
   exact absurd H (by simp)
  rw [if_pos c14] at H
  have c14b0 : decide (0 ≤ x6_1) = true := decide_eq_true c14
  clear c14
  by_cases c15 : x6_1 < (l0_1.length : Int)
  rotate_left
  ·rw [if_neg c15] at H
   exact absurd H (by simp)
  rw [if_pos c15] at H
  have c15b0 : decide (x6_1 < (l0_1.length : Int)) = true := decide_eq_true c15
  clear c15
  have H' := Aside0.mk H
  clear H
  have hcz16_0 : wr.cell? ⟨gb364, 0, none⟩ = some (.int .i64 a0_0) := (blk_cell BK364.out 0).trans rfl
  have hcz16_1 : wr.cell? ⟨gb364, 1, none⟩ = some (.slice A0_1 l0_1.length c0_1) := (blk_cell BK364.out 1).trans rfl
  have hfz16_0 := blk_frozen BK364.out 0
  have hfz16_1 := blk_frozen BK364.out 1
  have p367 : 0 ≤ (x6_1 : Int) := oda
  have q367 : x6_1 < (l0_1.length : Int) := oda
  obtain ⟨ad367, A367_0, c367_0, e367, hx367_0, hl367_0, hi367_0⟩ := at_L2 HR0_1.out x6_1 p367 q367
  cases e367
  replace hx367_0 := cel HB hx367_0
  have HR367_0 := Aside0.mk hi367_0
  have HC367_0 := Aside0.mk hl367_0
  clear hi367_0 hl367_0
  replace p367 := eq_true p367
  replace q367 := eq_true q367
  go_wp2
  go_roundg k1
  case measure => have := HK1.out; omega
  case rel => exact ⟨(wrap64 (x4_1 + ((rd_L2 l0_1 x6_1).length : Int))), (wrap64 (x6_1 + 1)), (by first | rfl | (simp; done) | (simp [*]; done)), (by first | rfl | (simp; done) | (simp [*]; done)), H', ⟨by have := HK1.out; omega⟩, ⟨bkl BK364⟩, ⟨bel1 HB GE364⟩⟩
/-! ### laws_FnUnloading: function 3 -/
def laws_FnUnloading.l0 : Nat → List Int → List Int → Int → Int → List (List Int) → Option (Bool)
 | 0, _, _, _, _, _ => none
 | k + 1, x9, x13, x15, x377000, x377001 => if x15 < (x13.length : Int) then (if 0 ≤ x15 then (if (rd x13 x15) = 0 then (laws_FnUnloading.l0 k x9 x13 (wrap64 (x15 + 1)) x377000 x377001) else (none)) else (none)) else ((impl_BayBalance.f k x377000 x377001).bind fun bt400 => ((spec_BayBalance.f k x377000 x377001).bind fun bt402 => (if (bt400.2 == bt402.2) = true then (if bt400.1 = bt402.1 then (if bt400.1 ≤ (x9.length : Int) then (some (decide ((wrap64 (-bt400.1)) ≤ (x9.length : Int)))) else (none)) else (none)) else (none))))
def laws_FnUnloading.f (k : Nat) (l0 : List Int) : Option (Bool) := (laws_vBig.f l0).bind fun t368 => (if t368 = true then (some true) else ((spec_DrawOverstowsOf.f k l0).bind fun bt369 => ((impl_OverstowsOf.f k bt369.1 bt369.2.1 bt369.2.2).bind fun bt377 => ((spec_OverstowsOf.f k bt369.1 bt369.2.1 bt369.2.2).bind fun bt381 => (if (bt377.2 != bt381.2) = true then (none) else ((laws_vInts.f k bt377.1 bt381.1).bind fun t385 => (if t385 = true then ((impl_ClearOrder.f k bt369.1 bt369.2.1).bind fun bt386 => ((spec_ClearOrder.f k bt369.1 bt369.2.1).bind fun bt390 => (if (bt386.2 != bt390.2) = true then (none) else ((laws_vInts.f k bt386.1 bt390.1).bind fun t394 => (if t394 = true then (if bt386.2 = true then ((impl_OverstowsOf.f k bt369.1 bt369.2.1 bt386.1).bind fun bt395 => (if bt395.2 = true then (if (bt395.1.length : Int) = (bt386.1.length : Int) then (laws_FnUnloading.l0 k bt386.1 bt395.1 0 bt369.1 bt369.2.1) else (none)) else (none))) else (some ((bt386.1.length : Int) == 0))) else (none)))))) else (none))))))))
theorem laws_FnUnloading.mono_l : ∀ k, (∀ y0 y1 y2 y3 y4, LeO (laws_FnUnloading.l0 k y0 y1 y2 y3 y4) (laws_FnUnloading.l0 (k + 1) y0 y1 y2 y3 y4))
 | 0 => fun _ _ _ _ _ r h => by simp [laws_FnUnloading.l0] at h
 | k + 1 => by
  have ih0 := laws_FnUnloading.mono_l k
  ·intro y0 y1 y2 y3 y4
   unfold laws_FnUnloading.l0
   repeat' first
   | (with_reducible exact ih0 _ _ _ _ _)
   | (with_reducible exact impl_BayBalance.mono _ _ _)
   | (with_reducible exact impl_ClearOrder.mono _ _ _)
   | (with_reducible exact impl_OverstowsOf.mono _ _ _ _)
   | (with_reducible exact laws_vInts.mono _ _ _)
   | (with_reducible exact spec_BayBalance.mono _ _ _)
   | (with_reducible exact spec_ClearOrder.mono _ _ _)
   | (with_reducible exact spec_DrawOverstowsOf.mono _ _)
   | (with_reducible exact spec_OverstowsOf.mono _ _ _ _)
   | (with_reducible exact LeO.refl _)
   | (with_reducible exact LeO.none _)
   | (with_reducible refine LeO.ite ?_ ?_)
   | (with_reducible refine LeO.bind ?_ (fun _ => ?_))
   | exact ih0 _ _ _ _ _
   | exact impl_BayBalance.mono _ _ _
   | exact impl_ClearOrder.mono _ _ _
   | exact impl_OverstowsOf.mono _ _ _ _
   | exact laws_vInts.mono _ _ _
   | exact spec_BayBalance.mono _ _ _
   | exact spec_ClearOrder.mono _ _ _
   | exact spec_DrawOverstowsOf.mono _ _
   | exact spec_OverstowsOf.mono _ _ _ _
   | exact LeO.none _
   | refine LeO.ite ?_ ?_
   | refine LeO.bind ?_ (fun _ => ?_)
theorem laws_FnUnloading.mono : ∀ a0 k, LeO (laws_FnUnloading.f k a0) (laws_FnUnloading.f (k + 1) a0) := by
 intro a0 k
 have ih0 := laws_FnUnloading.mono_l k
 unfold laws_FnUnloading.f
 repeat' first
   | (with_reducible exact ih0 _ _ _ _ _)
   | (with_reducible exact impl_BayBalance.mono _ _ _)
   | (with_reducible exact impl_ClearOrder.mono _ _ _)
   | (with_reducible exact impl_OverstowsOf.mono _ _ _ _)
   | (with_reducible exact laws_vInts.mono _ _ _)
   | (with_reducible exact spec_BayBalance.mono _ _ _)
   | (with_reducible exact spec_ClearOrder.mono _ _ _)
   | (with_reducible exact spec_DrawOverstowsOf.mono _ _)
   | (with_reducible exact spec_OverstowsOf.mono _ _ _ _)
   | (with_reducible exact LeO.refl _)
   | (with_reducible exact LeO.none _)
   | (with_reducible refine LeO.ite ?_ ?_)
   | (with_reducible refine LeO.bind ?_ (fun _ => ?_))
   | exact ih0 _ _ _ _ _
   | exact impl_BayBalance.mono _ _ _
   | exact impl_ClearOrder.mono _ _ _
   | exact impl_OverstowsOf.mono _ _ _ _
   | exact laws_vInts.mono _ _ _
   | exact spec_BayBalance.mono _ _ _
   | exact spec_ClearOrder.mono _ _ _
   | exact spec_DrawOverstowsOf.mono _ _
   | exact spec_OverstowsOf.mono _ _ _ _
   | exact LeO.none _
   | refine LeO.ite ?_ ?_
   | refine LeO.bind ?_ (fun _ => ?_)
set_option maxHeartbeats 8000000 in
set_option maxRecDepth 100000 in
theorem laws_FnUnloading.calls (k : Nat) (A0 : Option Addr) (c0 : Nat) (l0 : List Int) (r : Bool) (w : World) (hr0 : Kd.C (Kd.int .u8) w A0 l0.length l0) (hc0 : l0.length ≤ c0) (h : laws_FnUnloading.f k l0 = some r) :
  Calls Try.prog 3 #[.slice A0 l0.length c0] w fun e w' => e = .returned (.bool r) ∧ Below w.heap.size w w' := by
 have hu26 := Try.underlying26
 have HR0 := Aside0.mk hr0
 have HC0 := Aside0.mk hc0
 clear hr0 hc0
 have HB := Aside0.mk (Below.refl w.heap.size w)
 have H : ((laws_vBig.f l0).bind fun t368 => (if t368 = true then (some true) else ((spec_DrawOverstowsOf.f k l0).bind fun bt369 => ((impl_OverstowsOf.f k bt369.1 bt369.2.1 bt369.2.2).bind fun bt377 => ((spec_OverstowsOf.f k bt369.1 bt369.2.1 bt369.2.2).bind fun bt381 => (if (bt377.2 != bt381.2) = true then (none) else ((laws_vInts.f k bt377.1 bt381.1).bind fun t385 => (if t385 = true then ((impl_ClearOrder.f k bt369.1 bt369.2.1).bind fun bt386 => ((spec_ClearOrder.f k bt369.1 bt369.2.1).bind fun bt390 => (if (bt386.2 != bt390.2) = true then (none) else ((laws_vInts.f k bt386.1 bt390.1).bind fun t394 => (if t394 = true then (if bt386.2 = true then ((impl_OverstowsOf.f k bt369.1 bt369.2.1 bt386.1).bind fun bt395 => (if bt395.2 = true then (if (bt395.1.length : Int) = (bt386.1.length : Int) then (laws_FnUnloading.l0 k bt386.1 bt395.1 0 bt369.1 bt369.2.1) else (none)) else (none))) else (some ((bt386.1.length : Int) == 0))) else (none)))))) else (none))))))))) = some r := h
 clear h
 replace H := Option.bind_eq_some_iff.mp H
 obtain ⟨t368, A20, H⟩ := H
 replace H : (if t368 = true then (some true) else ((spec_DrawOverstowsOf.f k l0).bind fun bt369 => ((impl_OverstowsOf.f k bt369.1 bt369.2.1 bt369.2.2).bind fun bt377 => ((spec_OverstowsOf.f k bt369.1 bt369.2.1 bt369.2.2).bind fun bt381 => (if (bt377.2 != bt381.2) = true then (none) else ((laws_vInts.f k bt377.1 bt381.1).bind fun t385 => (if t385 = true then ((impl_ClearOrder.f k bt369.1 bt369.2.1).bind fun bt386 => ((spec_ClearOrder.f k bt369.1 bt369.2.1).bind fun bt390 => (if (bt386.2 != bt390.2) = true then (none) else ((laws_vInts.f k bt386.1 bt390.1).bind fun t394 => (if t394 = true then (if bt386.2 = true then ((impl_OverstowsOf.f k bt369.1 bt369.2.1 bt386.1).bind fun bt395 => (if bt395.2 = true then (if (bt395.1.length : Int) = (bt386.1.length : Int) then (laws_FnUnloading.l0 k bt386.1 bt395.1 0 bt369.1 bt369.2.1) else (none)) else (none))) else (some ((bt386.1.length : Int) == 0))) else (none)))))) else (none)))))))) = some r := H
 have A2 := Aside0.mk A20
 clear A20
 by_cases c3 : t368 = true
 ·subst c3
  have H1 : (some true) = some r := by rw [if_pos rfl] at H; exact H
  clear H
  have H := H1
  clear H1
  obtain rfl := Option.some.inj H
  go_enter Try.func3, Try.ntmps3
  go_wp2_with (first | ((with_reducible refine gate_callee (f := 4) rfl ?_); refine goesL_ (some 21) rfl rfl Try.func4 (by kernel_rfl) rfl #[.slice A0 l0.length c0] rfl gmp ?_; (with_reducible refine (laws_vBig.calls _ _ l0 true _ ?side1 ?side2 A2.out).mono ?_); (case side1 => exact cdl HR0.out); (case side2 => exact HC0.out); rintro e w' ⟨rfl, ⟨nd, rfl⟩⟩; refine ⟨_, rfl, ?_⟩))
  go_ret
  exact ⟨by first | rfl | (simp [errW_none, errW_some] <;> rfl) | (simp [*, errW_none, errW_some] <;> rfl), bel HB⟩
 replace c3 := Bool.eq_false_iff.mpr c3
 subst c3
 have H1 : ((spec_DrawOverstowsOf.f k l0).bind fun bt369 => ((impl_OverstowsOf.f k bt369.1 bt369.2.1 bt369.2.2).bind fun bt377 => ((spec_OverstowsOf.f k bt369.1 bt369.2.1 bt369.2.2).bind fun bt381 => (if (bt377.2 != bt381.2) = true then (none) else ((laws_vInts.f k bt377.1 bt381.1).bind fun t385 => (if t385 = true then ((impl_ClearOrder.f k bt369.1 bt369.2.1).bind fun bt386 => ((spec_ClearOrder.f k bt369.1 bt369.2.1).bind fun bt390 => (if (bt386.2 != bt390.2) = true then (none) else ((laws_vInts.f k bt386.1 bt390.1).bind fun t394 => (if t394 = true then (if bt386.2 = true then ((impl_OverstowsOf.f k bt369.1 bt369.2.1 bt386.1).bind fun bt395 => (if bt395.2 = true then (if (bt395.1.length : Int) = (bt386.1.length : Int) then (laws_FnUnloading.l0 k bt386.1 bt395.1 0 bt369.1 bt369.2.1) else (none)) else (none))) else (some ((bt386.1.length : Int) == 0))) else (none)))))) else (none))))))) = some r := by rw [if_neg (show ¬ (false = true) by decide)] at H; exact H
 clear H
 have H := H1
 clear H1
 replace H := Option.bind_eq_some_iff.mp H
 obtain ⟨⟨t369, t370, t373⟩, A40, H⟩ := H
 replace H : ((impl_OverstowsOf.f k t369 t370 t373).bind fun bt377 => ((spec_OverstowsOf.f k t369 t370 t373).bind fun bt381 => (if (bt377.2 != bt381.2) = true then (none) else ((laws_vInts.f k bt377.1 bt381.1).bind fun t385 => (if t385 = true then ((impl_ClearOrder.f k t369 t370).bind fun bt386 => ((spec_ClearOrder.f k t369 t370).bind fun bt390 => (if (bt386.2 != bt390.2) = true then (none) else ((laws_vInts.f k bt386.1 bt390.1).bind fun t394 => (if t394 = true then (if bt386.2 = true then ((impl_OverstowsOf.f k t369 t370 bt386.1).bind fun bt395 => (if bt395.2 = true then (if (bt395.1.length : Int) = (bt386.1.length : Int) then (laws_FnUnloading.l0 k bt386.1 bt395.1 0 t369 t370) else (none)) else (none))) else (some ((bt386.1.length : Int) == 0))) else (none)))))) else (none)))))) = some r := H
 have A4 := Aside0.mk A40
 clear A40
 replace H := Option.bind_eq_some_iff.mp H
 obtain ⟨⟨t377, t380⟩, A50, H⟩ := H
 replace H : ((spec_OverstowsOf.f k t369 t370 t373).bind fun bt381 => (if (t380 != bt381.2) = true then (none) else ((laws_vInts.f k t377 bt381.1).bind fun t385 => (if t385 = true then ((impl_ClearOrder.f k t369 t370).bind fun bt386 => ((spec_ClearOrder.f k t369 t370).bind fun bt390 => (if (bt386.2 != bt390.2) = true then (none) else ((laws_vInts.f k bt386.1 bt390.1).bind fun t394 => (if t394 = true then (if bt386.2 = true then ((impl_OverstowsOf.f k t369 t370 bt386.1).bind fun bt395 => (if bt395.2 = true then (if (bt395.1.length : Int) = (bt386.1.length : Int) then (laws_FnUnloading.l0 k bt386.1 bt395.1 0 t369 t370) else (none)) else (none))) else (some ((bt386.1.length : Int) == 0))) else (none)))))) else (none))))) = some r := H
 have A5 := Aside0.mk A50
 clear A50
 replace H := Option.bind_eq_some_iff.mp H
 obtain ⟨⟨t381, t384⟩, A60, H⟩ := H
 replace H : (if (t380 != t384) = true then (none) else ((laws_vInts.f k t377 t381).bind fun t385 => (if t385 = true then ((impl_ClearOrder.f k t369 t370).bind fun bt386 => ((spec_ClearOrder.f k t369 t370).bind fun bt390 => (if (bt386.2 != bt390.2) = true then (none) else ((laws_vInts.f k bt386.1 bt390.1).bind fun t394 => (if t394 = true then (if bt386.2 = true then ((impl_OverstowsOf.f k t369 t370 bt386.1).bind fun bt395 => (if bt395.2 = true then (if (bt395.1.length : Int) = (bt386.1.length : Int) then (laws_FnUnloading.l0 k bt386.1 bt395.1 0 t369 t370) else (none)) else (none))) else (some ((bt386.1.length : Int) == 0))) else (none)))))) else (none)))) = some r := H
 have A6 := Aside0.mk A60
 clear A60
 by_cases c7 : (t380 != t384) = true
 ·rw [if_pos c7] at H
  exact absurd H (by simp)
 rw [if_neg c7] at H
 have c7b0 : (t380 != t384) = false := by simpa using c7
 (try (have c7b1 : decide (t380 = t384) = true := by simpa using c7))
 (try (have c7b2 : (t380 == t384) = true := by simpa using c7))
 clear c7
 replace H := Option.bind_eq_some_iff.mp H
 obtain ⟨t385, A80, H⟩ := H
 replace H : (if t385 = true then ((impl_ClearOrder.f k t369 t370).bind fun bt386 => ((spec_ClearOrder.f k t369 t370).bind fun bt390 => (if (bt386.2 != bt390.2) = true then (none) else ((laws_vInts.f k bt386.1 bt390.1).bind fun t394 => (if t394 = true then (if bt386.2 = true then ((impl_OverstowsOf.f k t369 t370 bt386.1).bind fun bt395 => (if bt395.2 = true then (if (bt395.1.length : Int) = (bt386.1.length : Int) then (laws_FnUnloading.l0 k bt386.1 bt395.1 0 t369 t370) else (none)) else (none))) else (some ((bt386.1.length : Int) == 0))) else (none)))))) else (none)) = some r := H
 have A8 := Aside0.mk A80
 clear A80
 by_cases c9 : t385 = true
 rotate_left
 ·replace c9 := Bool.eq_false_iff.mpr c9
  subst c9
  have H1 : (none) = some r := by rw [if_neg (show ¬ (false = true) by decide)] at H; exact H
  clear H
  have H := H1
  clear H1
  exact absurd H (by simp)
 subst c9
 have H1 : ((impl_ClearOrder.f k t369 t370).bind fun bt386 => ((spec_ClearOrder.f k t369 t370).bind fun bt390 => (if (bt386.2 != bt390.2) = true then (none) else ((laws_vInts.f k bt386.1 bt390.1).bind fun t394 => (if t394 = true then (if bt386.2 = true then ((impl_OverstowsOf.f k t369 t370 bt386.1).bind fun bt395 => (if bt395.2 = true then (if (bt395.1.length : Int) = (bt386.1.length : Int) then (laws_FnUnloading.l0 k bt386.1 bt395.1 0 t369 t370) else (none)) else (none))) else (some ((bt386.1.length : Int) == 0))) else (none)))))) = some r := by rw [if_pos rfl] at H; exact H
 clear H
 have H := H1
 clear H1
 replace H := Option.bind_eq_some_iff.mp H
 obtain ⟨⟨t386, t389⟩, A100, H⟩ := H
 replace H : ((spec_ClearOrder.f k t369 t370).bind fun bt390 => (if (t389 != bt390.2) = true then (none) else ((laws_vInts.f k t386 bt390.1).bind fun t394 => (if t394 = true then (if t389 = true then ((impl_OverstowsOf.f k t369 t370 t386).bind fun bt395 => (if bt395.2 = true then (if (bt395.1.length : Int) = (t386.length : Int) then (laws_FnUnloading.l0 k t386 bt395.1 0 t369 t370) else (none)) else (none))) else (some ((t386.length : Int) == 0))) else (none))))) = some r := H
 have A10 := Aside0.mk A100
 clear A100
 replace H := Option.bind_eq_some_iff.mp H
 obtain ⟨⟨t390, t393⟩, A110, H⟩ := H
 replace H : (if (t389 != t393) = true then (none) else ((laws_vInts.f k t386 t390).bind fun t394 => (if t394 = true then (if t389 = true then ((impl_OverstowsOf.f k t369 t370 t386).bind fun bt395 => (if bt395.2 = true then (if (bt395.1.length : Int) = (t386.length : Int) then (laws_FnUnloading.l0 k t386 bt395.1 0 t369 t370) else (none)) else (none))) else (some ((t386.length : Int) == 0))) else (none)))) = some r := H
 have A11 := Aside0.mk A110
 clear A110
 by_cases c12 : (t389 != t393) = true
 ·rw [if_pos c12] at H
  exact absurd H (by simp)
 rw [if_neg c12] at H
 have c12b0 : (t389 != t393) = false := by simpa using c12
 (try (have c12b1 : decide (t389 = t393) = true := by simpa using c12))
 (try (have c12b2 : (t389 == t393) = true := by simpa using c12))
 clear c12
 replace H := Option.bind_eq_some_iff.mp H
 obtain ⟨t394, A130, H⟩ := H
 replace H : (if t394 = true then (if t389 = true then ((impl_OverstowsOf.f k t369 t370 t386).bind fun bt395 => (if bt395.2 = true then (if (bt395.1.length : Int) = (t386.length : Int) then (laws_FnUnloading.l0 k t386 bt395.1 0 t369 t370) else (none)) else (none))) else (some ((t386.length : Int) == 0))) else (none)) = some r := H
 have A13 := Aside0.mk A130
 clear A130
 by_cases c14 : t394 = true
 rotate_left
 ·replace c14 := Bool.eq_false_iff.mpr c14
  subst c14
  have H1 : (none) = some r := by rw [if_neg (show ¬ (false = true) by decide)] at H; exact H
  clear H
  have H := H1
  clear H1
  exact absurd H (by simp)
 subst c14
 have H1 : (if t389 = true then ((impl_OverstowsOf.f k t369 t370 t386).bind fun bt395 => (if bt395.2 = true then (if (bt395.1.length : Int) = (t386.length : Int) then (laws_FnUnloading.l0 k t386 bt395.1 0 t369 t370) else (none)) else (none))) else (some ((t386.length : Int) == 0))) = some r := by rw [if_pos rfl] at H; exact H
 clear H
 have H := H1
 clear H1
 by_cases c15 : t389 = true
 rotate_left
 ·replace c15 := Bool.eq_false_iff.mpr c15
  subst c15
  have H1 : (some ((t386.length : Int) == 0)) = some r := by rw [if_neg (show ¬ (false = true) by decide)] at H; exact H
  clear H
  have H := H1
  clear H1
  obtain rfl := Option.some.inj H
  go_enter Try.func3, Try.ntmps3
  go_wp2_with (first | ((with_reducible refine gate_callee (f := 4) rfl ?_); refine goesL_ (some 21) rfl rfl Try.func4 (by kernel_rfl) rfl #[.slice A0 l0.length c0] rfl gmp ?_; (with_reducible refine (laws_vBig.calls _ _ l0 false _ ?side1 ?side2 A2.out).mono ?_); (case side1 => exact cdl HR0.out); (case side2 => exact HC0.out); rintro e w' ⟨rfl, ⟨nd, rfl⟩⟩; refine ⟨_, rfl, ?_⟩) | ((with_reducible refine gate_callee (f := 5) rfl ?_); refine goesL_ (some 24) rfl rfl Try.func5 (by kernel_rfl) rfl #[.slice A0 l0.length c0] rfl gmp ?_; (with_reducible refine (spec_DrawOverstowsOf.calls k _ _ l0 t369 t370 t373 _ ?side1 ?side2 A4.out).mono ?_); (case side1 => exact cdl HR0.out); (case side2 => exact HC0.out); rintro e w50 ⟨v371, v374, rfl, ho0, ho1, hb⟩; refine ⟨_, rfl, ?_⟩; have n0_ := Aside0.mk (Kd.S_lower ho0 (below_size (bel HB))); have n1_ := Aside0.mk (Kd.R_lower ho1 (below_size (bel HB))); have n2_ := Aside0.mk (below_step (bel HB) hb); clear HB; have HO372 := n0_; have HO375 := n1_; have HB := n2_; clear n0_ n1_ n2_; (try clear hb); (try clear hb2); (try clear hk); (try clear hi); (try clear ho0); (try clear ho1)) | ((with_reducible refine gate_dst (N := 3) rfl ?_); (try (refine gate_guard (by rfl) ?_; dsimp only)); refine box_event ?hg (N := 3) ?hd (cs := #[.int .i64 0, .slice none 0 0]) (t := 26) ?hr ?_; (case hd => rfl); (case hg => rfl); (case hr => first | (go_simp; done) | (go_simp; rfl)); intro gb376 hg w51 hbox hb; have n0_ := Aside0.mk (Kd.S_below (sdl HO372) hb); have n1_ := Aside0.mk (Kd.R_below (rdl HO375) hb); have n2_ := Aside0.mk (below_step (bel HB) hb); have n3_ := Aside0.mk (hbox); have n4_ := Aside0.mk ((by rw [hg]; exact (below_size (bel HB)) : w.heap.size ≤ gb376)); have n5_ := Aside0.mk ((by rw [hg]; exact (below_size (bel HB)) : w.heap.size ≤ gb376)); clear HO372; clear HO375; clear HB; have HO372 := n0_; have HO375 := n1_; have HB := n2_; have BK376 := n3_; have GW376 := n4_; have GE376 := n5_; clear n0_ n1_ n2_ n3_ n4_ n5_; clear hb hbox hg; have hcz52_0 : w51.cell? ⟨gb376, 0, none⟩ = some (.int .i64 0) := (blk_cell BK376.out 0).trans rfl; have hcz52_1 : w51.cell? ⟨gb376, 1, none⟩ = some (.slice none 0 0) := (blk_cell BK376.out 1).trans rfl; have hfz52_0 := blk_frozen BK376.out 0; have hfz52_1 := blk_frozen BK376.out 1; obtain ⟨Ao53, co53, eo53⟩ := Kd.S_slice HO372.out; subst eo53; obtain ⟨Ao54, co54, eo54⟩ := Kd.R_slice HO375.out; subst eo54) | ((with_reducible refine gate_callee (f := 6) rfl ?_); refine goesL_ (some 30) rfl rfl Try.func6 (by kernel_rfl) rfl #[.agg #[.int .i64 t369, .slice Ao53 t370.length co53], .slice Ao54 t373.length co54] rfl gmp ?_; (with_reducible refine (impl_OverstowsOf.calls k t369 _ _ t370 _ _ t373 t377 t380 _ ?side1 ?side2 ?side3 ?side4 A5.out).mono ?_); (case side1 => refine (Kd.S_reads' (e := 27) (base := w.heap.size) (ok := fun k_ => some k_ ≠ (.slice Ao54 t373.length co54 : Value).ownBlock) (n := t370.length) (c := co53) ?_).2.2; exact (by (with_reducible repeat (first | apply Kd.S_alloc | apply Kd.S_drewN | apply Kd.S_drew)); exact (Kd.S_mono (Kd.S_far (p := ⟨gb376, 1, none⟩) (Kd.S_far (p := ⟨gb376, 0, none⟩) (Kd.S_types HO372.out BK376.out (by decide)) (fun _ hk => hk.2) (.int .i64 t369)) (fun _ hk => hk.2) (.slice Ao53 t370.length co53)) (fun _ h_ => h_.1)))); (case side2 => exact (Kd.S_reads' HO372.out).2.1); (case side3 => refine (Kd.R_reads' (e := 3) (base := w.heap.size) (ok := fun k_ => True) (n := t373.length) (c := co54) ?_).2.2; exact (by (with_reducible repeat (first | apply Kd.R_alloc | apply Kd.R_drewN | apply Kd.R_drew)); exact (Kd.R_mono (Kd.R_far (p := ⟨gb376, 1, none⟩) (Kd.R_far (p := ⟨gb376, 0, none⟩) (Kd.R_types HO375.out BK376.out (by decide)) (fun _ hk => hk.2) (.int .i64 t369)) (fun _ hk => hk.2) (.slice Ao53 t370.length co53)) (fun _ h_ => h_.1)))); (case side4 => exact (Kd.R_reads' HO375.out).2.1); rintro e w55 ⟨v378, rfl, ho0, hb⟩; refine ⟨_, rfl, ?_⟩; have n0_ := Aside0.mk (Kd.S_elder' (by (with_reducible repeat (first | apply Kd.S_alloc | apply Kd.S_drewN | apply Kd.S_drew)); exact (Kd.S_mono (Kd.S_far (p := ⟨gb376, 1, none⟩) (Kd.S_far (p := ⟨gb376, 0, none⟩) (Kd.S_types HO372.out BK376.out (by decide)) (fun _ hk => hk.2) (.int .i64 t369)) (fun _ hk => hk.2) (.slice Ao53 t370.length co53)) (fun _ h_ => h_.1))) (Kd.R_base ho0) hb); have n1_ := Aside0.mk (Kd.R_elder' (by (with_reducible repeat (first | apply Kd.R_alloc | apply Kd.R_drewN | apply Kd.R_drew)); exact (Kd.R_mono (Kd.R_far (p := ⟨gb376, 1, none⟩) (Kd.R_far (p := ⟨gb376, 0, none⟩) (Kd.R_types HO375.out BK376.out (by decide)) (fun _ hk => hk.2) (.int .i64 t369)) (fun _ hk => hk.2) (.slice Ao53 t370.length co53)) (fun _ h_ => h_.1))) (Kd.R_base ho0) hb); have n2_ := Aside0.mk (Kd.R_lower (Kd.R_new' ho0 (Kd.R_lt (by (with_reducible repeat (first | apply Kd.R_alloc | apply Kd.R_drewN | apply Kd.R_drew)); exact (Kd.R_mono (Kd.R_far (p := ⟨gb376, 1, none⟩) (Kd.R_far (p := ⟨gb376, 0, none⟩) (Kd.R_types HO375.out BK376.out (by decide)) (fun _ hk => hk.2) (.int .i64 t369)) (fun _ hk => hk.2) (.slice Ao53 t370.length co53)) (fun _ h_ => h_.1))))) (below_size (bel1 HB GE376))); have n3_ := Aside0.mk (blk_below (g := gb376) (o := .cells #[.int .i64 t369, .slice Ao53 t370.length co53] 26 (0, 0)) (by (with_reducible repeat (first | refine blk_drewN ?_ _ | refine blk_drew ?_ | refine blk_alloc ?_ _)); refine blk_put (cs := #[.int .i64 t369, .slice none 0 0]) ?_ 1 _ rfl; (with_reducible repeat (first | refine blk_drewN ?_ _ | refine blk_drew ?_ | refine blk_alloc ?_ _)); refine blk_put (cs := #[.int .i64 0, .slice none 0 0]) ?_ 0 _ rfl; (with_reducible repeat (first | refine blk_drewN ?_ _ | refine blk_drew ?_ | refine blk_alloc ?_ _)); exact BK376.out) hb); have n4_ := Aside0.mk (below_step (bel1 HB GE376) hb); clear HO372; clear HO375; clear BK376; clear HB; have HO372 := n0_; have HO375 := n1_; have HO379 := n2_; have BK376 := n3_; have HB := n4_; clear n0_ n1_ n2_ n3_ n4_; (try clear hb); (try clear hb2); (try clear hk); (try clear hi); (try clear ho0); have hcz56_0 : w55.cell? ⟨gb376, 0, none⟩ = some (.int .i64 t369) := (blk_cell BK376.out 0).trans rfl; have hcz56_1 : w55.cell? ⟨gb376, 1, none⟩ = some (.slice Ao53 t370.length co53) := (blk_cell BK376.out 1).trans rfl; have hfz56_0 := blk_frozen BK376.out 0; have hfz56_1 := blk_frozen BK376.out 1) | ((with_reducible refine gate_callee (f := 7) rfl ?_); refine goesL_ (some 36) rfl rfl Try.func7 (by kernel_rfl) rfl #[.agg #[.int .i64 t369, .slice Ao53 t370.length co53], .slice Ao54 t373.length co54] rfl gmp ?_; (with_reducible refine (spec_OverstowsOf.calls k t369 _ _ t370 _ _ t373 t381 t384 _ ?side1 ?side2 ?side3 ?side4 A6.out).mono ?_); (case side1 => exact cdl (Kd.S_reads' HO372.out).2.2); (case side2 => exact (Kd.S_reads' HO372.out).2.1); (case side3 => exact cdl (Kd.R_reads' HO375.out).2.2); (case side4 => exact (Kd.R_reads' HO375.out).2.1); rintro e w57 ⟨v382, rfl, ho0, hb⟩; refine ⟨_, rfl, ?_⟩; have n0_ := Aside0.mk (Kd.S_elder' (sdl HO372) (Kd.R_base ho0) hb); have n1_ := Aside0.mk (Kd.R_elder' (rdl HO375) (Kd.R_base ho0) hb); have n2_ := Aside0.mk (Kd.R_elder' (rdl HO379) (Kd.R_base ho0) hb); have n3_ := Aside0.mk (Kd.R_lower (Kd.R_new' (Kd.R_new' ho0 (Kd.R_lt (rdl HO375))) (Kd.R_lt (rdl HO379))) (below_size (bel1 HB GE376))); have n4_ := Aside0.mk (blk_below (g := gb376) (o := .cells #[.int .i64 t369, .slice Ao53 t370.length co53] 26 (0, 0)) (bkl BK376) hb); have n5_ := Aside0.mk (below_step (bel1 HB GE376) hb); clear HO372; clear HO375; clear HO379; clear BK376; clear HB; have HO372 := n0_; have HO375 := n1_; have HO379 := n2_; have HO383 := n3_; have BK376 := n4_; have HB := n5_; clear n0_ n1_ n2_ n3_ n4_ n5_; (try clear hb); (try clear hb2); (try clear hk); (try clear hi); (try clear ho0); obtain ⟨Ao58, co58, eo58⟩ := Kd.R_slice HO379.out; subst eo58; obtain ⟨Ao59, co59, eo59⟩ := Kd.R_slice HO383.out; subst eo59) | (go_at_call 8; (with_reducible refine (laws_vInts.calls k _ _ t377 _ _ t381 true _ ?side1 ?side2 ?side3 ?side4 A8.out).mono ?_); (case side1 => exact cdl (Kd.R_reads' HO379.out).2.2); (case side2 => exact (Kd.R_reads' HO379.out).2.1); (case side3 => exact cdl (Kd.R_reads' HO383.out).2.2); (case side4 => exact (Kd.R_reads' HO383.out).2.1); rintro e w' ⟨rfl, ⟨nd, rfl⟩⟩; have hcz60_0 : w57.cell? ⟨gb376, 0, none⟩ = some (.int .i64 t369) := (blk_cell BK376.out 0).trans rfl; have hcz60_1 : w57.cell? ⟨gb376, 1, none⟩ = some (.slice Ao53 t370.length co53) := (blk_cell BK376.out 1).trans rfl; have hfz60_0 := blk_frozen BK376.out 0; have hfz60_1 := blk_frozen BK376.out 1) | ((with_reducible refine gate_callee (f := 9) rfl ?_); refine goesL_ (some 50) rfl rfl Try.func9 (by kernel_rfl) rfl #[.agg #[.int .i64 t369, .slice Ao53 t370.length co53]] rfl gmp ?_; (with_reducible refine (impl_ClearOrder.calls k t369 _ _ t370 t386 false _ ?side1 ?side2 A10.out).mono ?_); (case side1 => exact cdl (Kd.S_reads' HO372.out).2.2); (case side2 => exact (Kd.S_reads' HO372.out).2.1); rintro e w61 ⟨v387, rfl, ho0, hb⟩; refine ⟨_, rfl, ?_⟩; have n0_ := Aside0.mk (Kd.S_elder' (sdl HO372) (Kd.R_base ho0) hb); have n1_ := Aside0.mk (Kd.R_elder' (rdl HO375) (Kd.R_base ho0) hb); have n2_ := Aside0.mk (Kd.R_elder' (rdl HO379) (Kd.R_base ho0) hb); have n3_ := Aside0.mk (Kd.R_elder' (rdl HO383) (Kd.R_base ho0) hb); have n4_ := Aside0.mk (Kd.R_lower (Kd.R_new' (Kd.R_new' (Kd.R_new' ho0 (Kd.R_lt (rdl HO375))) (Kd.R_lt (rdl HO379))) (Kd.R_lt (rdl HO383))) (below_size (bel1 HB GE376))); have n5_ := Aside0.mk (blk_below (g := gb376) (o := .cells #[.int .i64 t369, .slice Ao53 t370.length co53] 26 (0, 0)) (bkl BK376) hb); have n6_ := Aside0.mk (below_step (bel1 HB GE376) hb); clear HO372; clear HO375; clear HO379; clear HO383; clear BK376; clear HB; have HO372 := n0_; have HO375 := n1_; have HO379 := n2_; have HO383 := n3_; have HO388 := n4_; have BK376 := n5_; have HB := n6_; clear n0_ n1_ n2_ n3_ n4_ n5_ n6_; (try clear hb); (try clear hb2); (try clear hk); (try clear hi); (try clear ho0); have hcz62_0 : w61.cell? ⟨gb376, 0, none⟩ = some (.int .i64 t369) := (blk_cell BK376.out 0).trans rfl; have hcz62_1 : w61.cell? ⟨gb376, 1, none⟩ = some (.slice Ao53 t370.length co53) := (blk_cell BK376.out 1).trans rfl; have hfz62_0 := blk_frozen BK376.out 0; have hfz62_1 := blk_frozen BK376.out 1) | ((with_reducible refine gate_callee (f := 10) rfl ?_); refine goesL_ (some 55) rfl rfl Try.func10 (by kernel_rfl) rfl #[.agg #[.int .i64 t369, .slice Ao53 t370.length co53]] rfl gmp ?_; (with_reducible refine (spec_ClearOrder.calls k t369 _ _ t370 t390 t393 _ ?side1 ?side2 A11.out).mono ?_); (case side1 => exact cdl (Kd.S_reads' HO372.out).2.2); (case side2 => exact (Kd.S_reads' HO372.out).2.1); rintro e w63 ⟨v391, rfl, ho0, hb⟩; refine ⟨_, rfl, ?_⟩; have n0_ := Aside0.mk (Kd.S_elder' (sdl HO372) (Kd.R_base ho0) hb); have n1_ := Aside0.mk (Kd.R_elder' (rdl HO375) (Kd.R_base ho0) hb); have n2_ := Aside0.mk (Kd.R_elder' (rdl HO379) (Kd.R_base ho0) hb); have n3_ := Aside0.mk (Kd.R_elder' (rdl HO383) (Kd.R_base ho0) hb); have n4_ := Aside0.mk (Kd.R_elder' (rdl HO388) (Kd.R_base ho0) hb); have n5_ := Aside0.mk (Kd.R_lower (Kd.R_new' (Kd.R_new' (Kd.R_new' (Kd.R_new' ho0 (Kd.R_lt (rdl HO375))) (Kd.R_lt (rdl HO379))) (Kd.R_lt (rdl HO383))) (Kd.R_lt (rdl HO388))) (below_size (bel1 HB GE376))); have n6_ := Aside0.mk (blk_below (g := gb376) (o := .cells #[.int .i64 t369, .slice Ao53 t370.length co53] 26 (0, 0)) (bkl BK376) hb); have n7_ := Aside0.mk (below_step (bel1 HB GE376) hb); clear HO372; clear HO375; clear HO379; clear HO383; clear HO388; clear BK376; clear HB; have HO372 := n0_; have HO375 := n1_; have HO379 := n2_; have HO383 := n3_; have HO388 := n4_; have HO392 := n5_; have BK376 := n6_; have HB := n7_; clear n0_ n1_ n2_ n3_ n4_ n5_ n6_ n7_; (try clear hb); (try clear hb2); (try clear hk); (try clear hi); (try clear ho0); obtain ⟨Ao64, co64, eo64⟩ := Kd.R_slice HO388.out; subst eo64; obtain ⟨Ao65, co65, eo65⟩ := Kd.R_slice HO392.out; subst eo65) | (go_at_call 8; (with_reducible refine (laws_vInts.calls k _ _ t386 _ _ t390 true _ ?side1 ?side2 ?side3 ?side4 A13.out).mono ?_); (case side1 => exact cdl (Kd.R_reads' HO388.out).2.2); (case side2 => exact (Kd.R_reads' HO388.out).2.1); (case side3 => exact cdl (Kd.R_reads' HO392.out).2.2); (case side4 => exact (Kd.R_reads' HO392.out).2.1); rintro e w' ⟨rfl, ⟨nd, rfl⟩⟩))
  go_ret
  exact ⟨by first | rfl | (simp [errW_none, errW_some] <;> rfl) | (simp [*, errW_none, errW_some] <;> rfl), bel1 HB GE376⟩
 subst c15
 have H1 : ((impl_OverstowsOf.f k t369 t370 t386).bind fun bt395 => (if bt395.2 = true then (if (bt395.1.length : Int) = (t386.length : Int) then (laws_FnUnloading.l0 k t386 bt395.1 0 t369 t370) else (none)) else (none))) = some r := by rw [if_pos rfl] at H; exact H
 clear H
 have H := H1
 clear H1
 replace H := Option.bind_eq_some_iff.mp H
 obtain ⟨⟨t395, t398⟩, A160, H⟩ := H
 replace H : (if t398 = true then (if (t395.length : Int) = (t386.length : Int) then (laws_FnUnloading.l0 k t386 t395 0 t369 t370) else (none)) else (none)) = some r := H
 have A16 := Aside0.mk A160
 clear A160
 by_cases c17 : t398 = true
 rotate_left
 ·replace c17 := Bool.eq_false_iff.mpr c17
  subst c17
  have H1 : (none) = some r := by rw [if_neg (show ¬ (false = true) by decide)] at H; exact H
  clear H
  have H := H1
  clear H1
  exact absurd H (by simp)
 subst c17
 have H1 : (if (t395.length : Int) = (t386.length : Int) then (laws_FnUnloading.l0 k t386 t395 0 t369 t370) else (none)) = some r := by rw [if_pos rfl] at H; exact H
 clear H
 have H := H1
 clear H1
 by_cases c18 : (t395.length : Int) = (t386.length : Int)
 rotate_left
 ·rw [if_neg c18] at H
  exact absurd H (by simp)
 rw [if_pos c18] at H
 have c18b0 : ((t395.length : Int) == (t386.length : Int)) = true := beq_iff_eq.mpr c18
 have c18b1 : ((t395.length : Int) != (t386.length : Int)) = false := bne_eq_false_iff_eq.mpr c18
 have c18b2 : (t395.length == t386.length) = true := by first | simpa using c18 | (simp at c18 ⊢; omega)
 clear c18
 have H' := Aside0.mk H
 clear H
 go_enter Try.func3, Try.ntmps3
 go_wp2_with (first | ((with_reducible refine gate_callee (f := 4) rfl ?_); refine goesL_ (some 21) rfl rfl Try.func4 (by kernel_rfl) rfl #[.slice A0 l0.length c0] rfl gmp ?_; (with_reducible refine (laws_vBig.calls _ _ l0 false _ ?side1 ?side2 A2.out).mono ?_); (case side1 => exact cdl HR0.out); (case side2 => exact HC0.out); rintro e w' ⟨rfl, ⟨nd, rfl⟩⟩; refine ⟨_, rfl, ?_⟩) | ((with_reducible refine gate_callee (f := 5) rfl ?_); refine goesL_ (some 24) rfl rfl Try.func5 (by kernel_rfl) rfl #[.slice A0 l0.length c0] rfl gmp ?_; (with_reducible refine (spec_DrawOverstowsOf.calls k _ _ l0 t369 t370 t373 _ ?side1 ?side2 A4.out).mono ?_); (case side1 => exact cdl HR0.out); (case side2 => exact HC0.out); rintro e w19 ⟨v371, v374, rfl, ho0, ho1, hb⟩; refine ⟨_, rfl, ?_⟩; have n0_ := Aside0.mk (Kd.S_lower ho0 (below_size (bel HB))); have n1_ := Aside0.mk (Kd.R_lower ho1 (below_size (bel HB))); have n2_ := Aside0.mk (below_step (bel HB) hb); clear HB; have HO372 := n0_; have HO375 := n1_; have HB := n2_; clear n0_ n1_ n2_; (try clear hb); (try clear hb2); (try clear hk); (try clear hi); (try clear ho0); (try clear ho1)) | ((with_reducible refine gate_dst (N := 3) rfl ?_); (try (refine gate_guard (by rfl) ?_; dsimp only)); refine box_event ?hg (N := 3) ?hd (cs := #[.int .i64 0, .slice none 0 0]) (t := 26) ?hr ?_; (case hd => rfl); (case hg => rfl); (case hr => first | (go_simp; done) | (go_simp; rfl)); intro gb376 hg w20 hbox hb; have n0_ := Aside0.mk (Kd.S_below (sdl HO372) hb); have n1_ := Aside0.mk (Kd.R_below (rdl HO375) hb); have n2_ := Aside0.mk (below_step (bel HB) hb); have n3_ := Aside0.mk (hbox); have n4_ := Aside0.mk ((by rw [hg]; exact (below_size (bel HB)) : w.heap.size ≤ gb376)); have n5_ := Aside0.mk ((by rw [hg]; exact (below_size (bel HB)) : w.heap.size ≤ gb376)); clear HO372; clear HO375; clear HB; have HO372 := n0_; have HO375 := n1_; have HB := n2_; have BK376 := n3_; have GW376 := n4_; have GE376 := n5_; clear n0_ n1_ n2_ n3_ n4_ n5_; clear hb hbox hg; have hcz21_0 : w20.cell? ⟨gb376, 0, none⟩ = some (.int .i64 0) := (blk_cell BK376.out 0).trans rfl; have hcz21_1 : w20.cell? ⟨gb376, 1, none⟩ = some (.slice none 0 0) := (blk_cell BK376.out 1).trans rfl; have hfz21_0 := blk_frozen BK376.out 0; have hfz21_1 := blk_frozen BK376.out 1; obtain ⟨Ao22, co22, eo22⟩ := Kd.S_slice HO372.out; subst eo22; obtain ⟨Ao23, co23, eo23⟩ := Kd.R_slice HO375.out; subst eo23) | ((with_reducible refine gate_callee (f := 6) rfl ?_); refine goesL_ (some 30) rfl rfl Try.func6 (by kernel_rfl) rfl #[.agg #[.int .i64 t369, .slice Ao22 t370.length co22], .slice Ao23 t373.length co23] rfl gmp ?_; (with_reducible refine (impl_OverstowsOf.calls k t369 _ _ t370 _ _ t373 t377 t380 _ ?side1 ?side2 ?side3 ?side4 A5.out).mono ?_); (case side1 => refine (Kd.S_reads' (e := 27) (base := w.heap.size) (ok := fun k_ => some k_ ≠ (.slice Ao23 t373.length co23 : Value).ownBlock) (n := t370.length) (c := co22) ?_).2.2; exact (by (with_reducible repeat (first | apply Kd.S_alloc | apply Kd.S_drewN | apply Kd.S_drew)); exact (Kd.S_mono (Kd.S_far (p := ⟨gb376, 1, none⟩) (Kd.S_far (p := ⟨gb376, 0, none⟩) (Kd.S_types HO372.out BK376.out (by decide)) (fun _ hk => hk.2) (.int .i64 t369)) (fun _ hk => hk.2) (.slice Ao22 t370.length co22)) (fun _ h_ => h_.1)))); (case side2 => exact (Kd.S_reads' HO372.out).2.1); (case side3 => refine (Kd.R_reads' (e := 3) (base := w.heap.size) (ok := fun k_ => True) (n := t373.length) (c := co23) ?_).2.2; exact (by (with_reducible repeat (first | apply Kd.R_alloc | apply Kd.R_drewN | apply Kd.R_drew)); exact (Kd.R_mono (Kd.R_far (p := ⟨gb376, 1, none⟩) (Kd.R_far (p := ⟨gb376, 0, none⟩) (Kd.R_types HO375.out BK376.out (by decide)) (fun _ hk => hk.2) (.int .i64 t369)) (fun _ hk => hk.2) (.slice Ao22 t370.length co22)) (fun _ h_ => h_.1)))); (case side4 => exact (Kd.R_reads' HO375.out).2.1); rintro e w24 ⟨v378, rfl, ho0, hb⟩; refine ⟨_, rfl, ?_⟩; have n0_ := Aside0.mk (Kd.S_elder' (by (with_reducible repeat (first | apply Kd.S_alloc | apply Kd.S_drewN | apply Kd.S_drew)); exact (Kd.S_mono (Kd.S_far (p := ⟨gb376, 1, none⟩) (Kd.S_far (p := ⟨gb376, 0, none⟩) (Kd.S_types HO372.out BK376.out (by decide)) (fun _ hk => hk.2) (.int .i64 t369)) (fun _ hk => hk.2) (.slice Ao22 t370.length co22)) (fun _ h_ => h_.1))) (Kd.R_base ho0) hb); have n1_ := Aside0.mk (Kd.R_elder' (by (with_reducible repeat (first | apply Kd.R_alloc | apply Kd.R_drewN | apply Kd.R_drew)); exact (Kd.R_mono (Kd.R_far (p := ⟨gb376, 1, none⟩) (Kd.R_far (p := ⟨gb376, 0, none⟩) (Kd.R_types HO375.out BK376.out (by decide)) (fun _ hk => hk.2) (.int .i64 t369)) (fun _ hk => hk.2) (.slice Ao22 t370.length co22)) (fun _ h_ => h_.1))) (Kd.R_base ho0) hb); have n2_ := Aside0.mk (Kd.R_lower (Kd.R_new' ho0 (Kd.R_lt (by (with_reducible repeat (first | apply Kd.R_alloc | apply Kd.R_drewN | apply Kd.R_drew)); exact (Kd.R_mono (Kd.R_far (p := ⟨gb376, 1, none⟩) (Kd.R_far (p := ⟨gb376, 0, none⟩) (Kd.R_types HO375.out BK376.out (by decide)) (fun _ hk => hk.2) (.int .i64 t369)) (fun _ hk => hk.2) (.slice Ao22 t370.length co22)) (fun _ h_ => h_.1))))) (below_size (bel1 HB GE376))); have n3_ := Aside0.mk (blk_below (g := gb376) (o := .cells #[.int .i64 t369, .slice Ao22 t370.length co22] 26 (0, 0)) (by (with_reducible repeat (first | refine blk_drewN ?_ _ | refine blk_drew ?_ | refine blk_alloc ?_ _)); refine blk_put (cs := #[.int .i64 t369, .slice none 0 0]) ?_ 1 _ rfl; (with_reducible repeat (first | refine blk_drewN ?_ _ | refine blk_drew ?_ | refine blk_alloc ?_ _)); refine blk_put (cs := #[.int .i64 0, .slice none 0 0]) ?_ 0 _ rfl; (with_reducible repeat (first | refine blk_drewN ?_ _ | refine blk_drew ?_ | refine blk_alloc ?_ _)); exact BK376.out) hb); have n4_ := Aside0.mk (below_step (bel1 HB GE376) hb); clear HO372; clear HO375; clear BK376; clear HB; have HO372 := n0_; have HO375 := n1_; have HO379 := n2_; have BK376 := n3_; have HB := n4_; clear n0_ n1_ n2_ n3_ n4_; (try clear hb); (try clear hb2); (try clear hk); (try clear hi); (try clear ho0); have hcz25_0 : w24.cell? ⟨gb376, 0, none⟩ = some (.int .i64 t369) := (blk_cell BK376.out 0).trans rfl; have hcz25_1 : w24.cell? ⟨gb376, 1, none⟩ = some (.slice Ao22 t370.length co22) := (blk_cell BK376.out 1).trans rfl; have hfz25_0 := blk_frozen BK376.out 0; have hfz25_1 := blk_frozen BK376.out 1) | ((with_reducible refine gate_callee (f := 7) rfl ?_); refine goesL_ (some 36) rfl rfl Try.func7 (by kernel_rfl) rfl #[.agg #[.int .i64 t369, .slice Ao22 t370.length co22], .slice Ao23 t373.length co23] rfl gmp ?_; (with_reducible refine (spec_OverstowsOf.calls k t369 _ _ t370 _ _ t373 t381 t384 _ ?side1 ?side2 ?side3 ?side4 A6.out).mono ?_); (case side1 => exact cdl (Kd.S_reads' HO372.out).2.2); (case side2 => exact (Kd.S_reads' HO372.out).2.1); (case side3 => exact cdl (Kd.R_reads' HO375.out).2.2); (case side4 => exact (Kd.R_reads' HO375.out).2.1); rintro e w26 ⟨v382, rfl, ho0, hb⟩; refine ⟨_, rfl, ?_⟩; have n0_ := Aside0.mk (Kd.S_elder' (sdl HO372) (Kd.R_base ho0) hb); have n1_ := Aside0.mk (Kd.R_elder' (rdl HO375) (Kd.R_base ho0) hb); have n2_ := Aside0.mk (Kd.R_elder' (rdl HO379) (Kd.R_base ho0) hb); have n3_ := Aside0.mk (Kd.R_lower (Kd.R_new' (Kd.R_new' ho0 (Kd.R_lt (rdl HO375))) (Kd.R_lt (rdl HO379))) (below_size (bel1 HB GE376))); have n4_ := Aside0.mk (blk_below (g := gb376) (o := .cells #[.int .i64 t369, .slice Ao22 t370.length co22] 26 (0, 0)) (bkl BK376) hb); have n5_ := Aside0.mk (below_step (bel1 HB GE376) hb); clear HO372; clear HO375; clear HO379; clear BK376; clear HB; have HO372 := n0_; have HO375 := n1_; have HO379 := n2_; have HO383 := n3_; have BK376 := n4_; have HB := n5_; clear n0_ n1_ n2_ n3_ n4_ n5_; (try clear hb); (try clear hb2); (try clear hk); (try clear hi); (try clear ho0); obtain ⟨Ao27, co27, eo27⟩ := Kd.R_slice HO379.out; subst eo27; obtain ⟨Ao28, co28, eo28⟩ := Kd.R_slice HO383.out; subst eo28) | (go_at_call 8; (with_reducible refine (laws_vInts.calls k _ _ t377 _ _ t381 true _ ?side1 ?side2 ?side3 ?side4 A8.out).mono ?_); (case side1 => exact cdl (Kd.R_reads' HO379.out).2.2); (case side2 => exact (Kd.R_reads' HO379.out).2.1); (case side3 => exact cdl (Kd.R_reads' HO383.out).2.2); (case side4 => exact (Kd.R_reads' HO383.out).2.1); rintro e w' ⟨rfl, ⟨nd, rfl⟩⟩; have hcz29_0 : w26.cell? ⟨gb376, 0, none⟩ = some (.int .i64 t369) := (blk_cell BK376.out 0).trans rfl; have hcz29_1 : w26.cell? ⟨gb376, 1, none⟩ = some (.slice Ao22 t370.length co22) := (blk_cell BK376.out 1).trans rfl; have hfz29_0 := blk_frozen BK376.out 0; have hfz29_1 := blk_frozen BK376.out 1) | ((with_reducible refine gate_callee (f := 9) rfl ?_); refine goesL_ (some 50) rfl rfl Try.func9 (by kernel_rfl) rfl #[.agg #[.int .i64 t369, .slice Ao22 t370.length co22]] rfl gmp ?_; (with_reducible refine (impl_ClearOrder.calls k t369 _ _ t370 t386 true _ ?side1 ?side2 A10.out).mono ?_); (case side1 => exact cdl (Kd.S_reads' HO372.out).2.2); (case side2 => exact (Kd.S_reads' HO372.out).2.1); rintro e w30 ⟨v387, rfl, ho0, hb⟩; refine ⟨_, rfl, ?_⟩; have n0_ := Aside0.mk (Kd.S_elder' (sdl HO372) (Kd.R_base ho0) hb); have n1_ := Aside0.mk (Kd.R_elder' (rdl HO375) (Kd.R_base ho0) hb); have n2_ := Aside0.mk (Kd.R_elder' (rdl HO379) (Kd.R_base ho0) hb); have n3_ := Aside0.mk (Kd.R_elder' (rdl HO383) (Kd.R_base ho0) hb); have n4_ := Aside0.mk (Kd.R_lower (Kd.R_new' (Kd.R_new' (Kd.R_new' ho0 (Kd.R_lt (rdl HO375))) (Kd.R_lt (rdl HO379))) (Kd.R_lt (rdl HO383))) (below_size (bel1 HB GE376))); have n5_ := Aside0.mk (blk_below (g := gb376) (o := .cells #[.int .i64 t369, .slice Ao22 t370.length co22] 26 (0, 0)) (bkl BK376) hb); have n6_ := Aside0.mk (below_step (bel1 HB GE376) hb); clear HO372; clear HO375; clear HO379; clear HO383; clear BK376; clear HB; have HO372 := n0_; have HO375 := n1_; have HO379 := n2_; have HO383 := n3_; have HO388 := n4_; have BK376 := n5_; have HB := n6_; clear n0_ n1_ n2_ n3_ n4_ n5_ n6_; (try clear hb); (try clear hb2); (try clear hk); (try clear hi); (try clear ho0); have hcz31_0 : w30.cell? ⟨gb376, 0, none⟩ = some (.int .i64 t369) := (blk_cell BK376.out 0).trans rfl; have hcz31_1 : w30.cell? ⟨gb376, 1, none⟩ = some (.slice Ao22 t370.length co22) := (blk_cell BK376.out 1).trans rfl; have hfz31_0 := blk_frozen BK376.out 0; have hfz31_1 := blk_frozen BK376.out 1) | ((with_reducible refine gate_callee (f := 10) rfl ?_); refine goesL_ (some 55) rfl rfl Try.func10 (by kernel_rfl) rfl #[.agg #[.int .i64 t369, .slice Ao22 t370.length co22]] rfl gmp ?_; (with_reducible refine (spec_ClearOrder.calls k t369 _ _ t370 t390 t393 _ ?side1 ?side2 A11.out).mono ?_); (case side1 => exact cdl (Kd.S_reads' HO372.out).2.2); (case side2 => exact (Kd.S_reads' HO372.out).2.1); rintro e w32 ⟨v391, rfl, ho0, hb⟩; refine ⟨_, rfl, ?_⟩; have n0_ := Aside0.mk (Kd.S_elder' (sdl HO372) (Kd.R_base ho0) hb); have n1_ := Aside0.mk (Kd.R_elder' (rdl HO375) (Kd.R_base ho0) hb); have n2_ := Aside0.mk (Kd.R_elder' (rdl HO379) (Kd.R_base ho0) hb); have n3_ := Aside0.mk (Kd.R_elder' (rdl HO383) (Kd.R_base ho0) hb); have n4_ := Aside0.mk (Kd.R_elder' (rdl HO388) (Kd.R_base ho0) hb); have n5_ := Aside0.mk (Kd.R_lower (Kd.R_new' (Kd.R_new' (Kd.R_new' (Kd.R_new' ho0 (Kd.R_lt (rdl HO375))) (Kd.R_lt (rdl HO379))) (Kd.R_lt (rdl HO383))) (Kd.R_lt (rdl HO388))) (below_size (bel1 HB GE376))); have n6_ := Aside0.mk (blk_below (g := gb376) (o := .cells #[.int .i64 t369, .slice Ao22 t370.length co22] 26 (0, 0)) (bkl BK376) hb); have n7_ := Aside0.mk (below_step (bel1 HB GE376) hb); clear HO372; clear HO375; clear HO379; clear HO383; clear HO388; clear BK376; clear HB; have HO372 := n0_; have HO375 := n1_; have HO379 := n2_; have HO383 := n3_; have HO388 := n4_; have HO392 := n5_; have BK376 := n6_; have HB := n7_; clear n0_ n1_ n2_ n3_ n4_ n5_ n6_ n7_; (try clear hb); (try clear hb2); (try clear hk); (try clear hi); (try clear ho0); obtain ⟨Ao33, co33, eo33⟩ := Kd.R_slice HO388.out; subst eo33; obtain ⟨Ao34, co34, eo34⟩ := Kd.R_slice HO392.out; subst eo34) | (go_at_call 8; (with_reducible refine (laws_vInts.calls k _ _ t386 _ _ t390 true _ ?side1 ?side2 ?side3 ?side4 A13.out).mono ?_); (case side1 => exact cdl (Kd.R_reads' HO388.out).2.2); (case side2 => exact (Kd.R_reads' HO388.out).2.1); (case side3 => exact cdl (Kd.R_reads' HO392.out).2.2); (case side4 => exact (Kd.R_reads' HO392.out).2.1); rintro e w' ⟨rfl, ⟨nd, rfl⟩⟩; have hcz35_0 : w32.cell? ⟨gb376, 0, none⟩ = some (.int .i64 t369) := (blk_cell BK376.out 0).trans rfl; have hcz35_1 : w32.cell? ⟨gb376, 1, none⟩ = some (.slice Ao22 t370.length co22) := (blk_cell BK376.out 1).trans rfl; have hfz35_0 := blk_frozen BK376.out 0; have hfz35_1 := blk_frozen BK376.out 1) | ((with_reducible refine gate_callee (f := 6) rfl ?_); refine goesL_ (some 75) rfl rfl Try.func6 (by kernel_rfl) rfl #[.agg #[.int .i64 t369, .slice Ao22 t370.length co22], .slice Ao33 t386.length co33] rfl gmp ?_; (with_reducible refine (impl_OverstowsOf.calls k t369 _ _ t370 _ _ t386 t395 true _ ?side1 ?side2 ?side3 ?side4 A16.out).mono ?_); (case side1 => exact cdl (Kd.S_reads' HO372.out).2.2); (case side2 => exact (Kd.S_reads' HO372.out).2.1); (case side3 => exact cdl (Kd.R_reads' HO388.out).2.2); (case side4 => exact (Kd.R_reads' HO388.out).2.1); rintro e w36 ⟨v396, rfl, ho0, hb⟩; refine ⟨_, rfl, ?_⟩; have n0_ := Aside0.mk (Kd.S_elder' (sdl HO372) (Kd.R_base ho0) hb); have n1_ := Aside0.mk (Kd.R_elder' (rdl HO375) (Kd.R_base ho0) hb); have n2_ := Aside0.mk (Kd.R_elder' (rdl HO379) (Kd.R_base ho0) hb); have n3_ := Aside0.mk (Kd.R_elder' (rdl HO383) (Kd.R_base ho0) hb); have n4_ := Aside0.mk (Kd.R_elder' (rdl HO388) (Kd.R_base ho0) hb); have n5_ := Aside0.mk (Kd.R_elder' (rdl HO392) (Kd.R_base ho0) hb); have n6_ := Aside0.mk (Kd.R_lower (Kd.R_new' (Kd.R_new' (Kd.R_new' (Kd.R_new' (Kd.R_new' ho0 (Kd.R_lt (rdl HO375))) (Kd.R_lt (rdl HO379))) (Kd.R_lt (rdl HO383))) (Kd.R_lt (rdl HO388))) (Kd.R_lt (rdl HO392))) (below_size (bel1 HB GE376))); have n7_ := Aside0.mk (blk_below (g := gb376) (o := .cells #[.int .i64 t369, .slice Ao22 t370.length co22] 26 (0, 0)) (bkl BK376) hb); have n8_ := Aside0.mk (below_step (bel1 HB GE376) hb); clear HO372; clear HO375; clear HO379; clear HO383; clear HO388; clear HO392; clear BK376; clear HB; have HO372 := n0_; have HO375 := n1_; have HO379 := n2_; have HO383 := n3_; have HO388 := n4_; have HO392 := n5_; have HO397 := n6_; have BK376 := n7_; have HB := n8_; clear n0_ n1_ n2_ n3_ n4_ n5_ n6_ n7_ n8_; (try clear hb); (try clear hb2); (try clear hk); (try clear hi); (try clear ho0); obtain ⟨Ao37, co37, eo37⟩ := Kd.R_slice HO397.out; subst eo37))
 go_loopg [15] k (fun kq v15 w' => ∃ (x15_1 : Int), v15 = .int .i64 x15_1 ∧ Aside0 (laws_FnUnloading.l0 kq t386 t395 x15_1 t369 t370 = some r) ∧ Aside0 (kq ≤ k) ∧ Aside0 (Kd.R (Kd.int .i64) 3 w' w.heap.size (fun k_ => some k_ ≠ ((.slice Ao37 t395.length co37) : Value).ownBlock) (.slice Ao33 t386.length co33) t386) ∧ Aside0 (Kd.R (Kd.int .i64) 3 w' w.heap.size (fun k_ => some k_ ≠ ((.slice Ao33 t386.length co33) : Value).ownBlock) (.slice Ao37 t395.length co37) t395) ∧ Aside0 (Kd.S (Kd.slice 3 (Kd.int .i64)) 27 w' w.heap.size (fun k_ => some k_ ≠ ((.slice Ao33 t386.length co33) : Value).ownBlock ∧ some k_ ≠ ((.slice Ao37 t395.length co37) : Value).ownBlock) (.slice Ao22 t370.length co22) t370) ∧ Aside0 (w'.heap[gb376]? = some (.cells #[.int .i64 t369, (.slice Ao22 t370.length co22)] 26 (0, 0))) ∧ Aside0 (Below w.heap.size w w'))
 case atStart => exact ⟨(0), (by first | rfl | (simp; done) | (simp [*]; done)), H', ⟨Nat.le_refl _⟩, ⟨by (with_reducible repeat (first | apply Kd.R_alloc | apply Kd.R_drewN | apply Kd.R_drew)); exact Kd.R_mono HO388.out (fun _ hk => hk.2)⟩, ⟨by (with_reducible repeat (first | apply Kd.R_alloc | apply Kd.R_drewN | apply Kd.R_drew)); exact Kd.R_mono HO397.out (fun _ hk => hk.1.2)⟩, ⟨by (with_reducible repeat (first | apply Kd.S_alloc | apply Kd.S_drewN | apply Kd.S_drew)); exact Kd.S_mono HO372.out (fun _ hk => ⟨hk.1.1.2, hk.2⟩)⟩, ⟨bkl BK376⟩, ⟨bel1 HB GE376⟩⟩
 clear H'
 try clear c1
 try clear p2
 try clear c3
 try clear c4
 try clear c5
 try clear c6
 try clear c7
 try clear c7b0
 try clear c7b1
 try clear c7b2
 try clear c9
 try clear c10
 try clear c12
 try clear c12b0
 try clear c12b1
 try clear c12b2
 try clear c14
 try clear c15
 try clear c17
 try clear c18
 try clear c18b0
 try clear c18b1
 try clear c18b2
 try clear hcz21_0
 try clear hcz21_1
 try clear hcz25_0
 try clear hcz25_1
 try clear hcz29_0
 try clear hcz29_1
 try clear hcz31_0
 try clear hcz31_1
 try clear hcz35_0
 try clear hcz35_1
 try clear hfz21_0
 try clear hfz21_1
 try clear hfz25_0
 try clear hfz25_1
 try clear hfz29_0
 try clear hfz29_1
 try clear hfz31_0
 try clear hfz31_1
 try clear hfz35_0
 try clear hfz35_1
 obtain ⟨x15_1, rfl, HA, HK1, HO_9, HO_13, HO_377001, BK376, HB⟩ := hrel
 cases gk with
 | zero => exact absurd HA.out (by simp [laws_FnUnloading.l0])
 | succ k1 =>
  have H := HA.out
  clear HA
  simp only [laws_FnUnloading.l0] at H
  by_cases c38 : x15_1 < (t395.length : Int)
  ·rw [if_pos c38] at H
   have c38b0 : decide (x15_1 < (t395.length : Int)) = true := decide_eq_true c38
   clear c38
   by_cases c39 : 0 ≤ x15_1
   rotate_left
   ·rw [if_neg c39] at H
    exact absurd H (by simp)
   rw [if_pos c39] at H
   have c39b0 : decide (0 ≤ x15_1) = true := decide_eq_true c39
   clear c39
   by_cases c40 : (rd t395 x15_1) = 0
   rotate_left
   ·rw [if_neg c40] at H
    exact absurd H (by simp)
   rw [if_pos c40] at H
   have c40b0 : ((rd t395 x15_1) == 0) = true := beq_iff_eq.mpr c40
   have c40b1 : ((rd t395 x15_1) != 0) = false := bne_eq_false_iff_eq.mpr c40
   clear c40
   have H' := Aside0.mk H
   clear H
   have p399 : 0 ≤ (x15_1 : Int) := oda
   have q399 : x15_1 < (t395.length : Int) := oda
   obtain ⟨ad399, e399, hx399_0⟩ := Kd.at_int (Kd.R_reads' HO_13.out).2.2 x15_1 p399 q399
   cases e399
   replace p399 := eq_true p399
   replace q399 := eq_true q399
   go_wp2
   go_roundg k1
   case measure => have := HK1.out; omega
   case rel => exact ⟨(wrap64 (x15_1 + 1)), (by first | rfl | (simp; done) | (simp [*]; done)), H', ⟨by have := HK1.out; omega⟩, ⟨rdl HO_9⟩, ⟨rdl HO_13⟩, ⟨sdl HO_377001⟩, ⟨bkl BK376⟩, ⟨bel1 HB GE376⟩⟩
  rw [if_neg c38] at H
  have c38b0 : decide (x15_1 < (t395.length : Int)) = false := decide_eq_false c38
  clear c38
  replace H := Option.bind_eq_some_iff.mp H
  obtain ⟨⟨t400, t401⟩, A410, H⟩ := H
  replace H : ((spec_BayBalance.f k1 t369 t370).bind fun bt402 => (if (t401 == bt402.2) = true then (if t400 = bt402.1 then (if t400 ≤ (t386.length : Int) then (some (decide ((wrap64 (-t400)) ≤ (t386.length : Int)))) else (none)) else (none)) else (none))) = some r := H
  have A41 := Aside0.mk A410
  clear A410
  replace H := Option.bind_eq_some_iff.mp H
  obtain ⟨⟨t402, t403⟩, A420, H⟩ := H
  replace H : (if (t401 == t403) = true then (if t400 = t402 then (if t400 ≤ (t386.length : Int) then (some (decide ((wrap64 (-t400)) ≤ (t386.length : Int)))) else (none)) else (none)) else (none)) = some r := H
  have A42 := Aside0.mk A420
  clear A420
  by_cases c43 : (t401 == t403) = true
  rotate_left
  ·rw [if_neg c43] at H
   exact absurd H (by simp)
  rw [if_pos c43] at H
  have c43b0 : (t401 == t403) = true := c43
  (try (have c43b1 : decide (t401 = t403) = true := by simpa using c43))
  (try (have c43b2 : (t401 == t403) = true := by simpa using c43))
  clear c43
  by_cases c44 : t400 = t402
  rotate_left
  ·rw [if_neg c44] at H
   exact absurd H (by simp)
  rw [if_pos c44] at H
  have c44b0 : (t400 == t402) = true := beq_iff_eq.mpr c44
  have c44b1 : (t400 != t402) = false := bne_eq_false_iff_eq.mpr c44
  clear c44
  by_cases c45 : t400 ≤ (t386.length : Int)
  rotate_left
  ·rw [if_neg c45] at H
   exact absurd H (by simp)
  rw [if_pos c45] at H
  have c45b0 : decide (t400 ≤ (t386.length : Int)) = true := decide_eq_true c45
  clear c45
  obtain rfl := Option.some.inj H
  have hcz46_0 : wr.cell? ⟨gb376, 0, none⟩ = some (.int .i64 t369) := (blk_cell BK376.out 0).trans rfl
  have hcz46_1 : wr.cell? ⟨gb376, 1, none⟩ = some (.slice Ao22 t370.length co22) := (blk_cell BK376.out 1).trans rfl
  have hfz46_0 := blk_frozen BK376.out 0
  have hfz46_1 := blk_frozen BK376.out 1
  go_wp2_with (first | ((with_reducible refine gate_callee (f := 11) rfl ?_); refine goesL_ (some 100) rfl rfl Try.func11 (by kernel_rfl) rfl #[.agg #[.int .i64 t369, .slice Ao22 t370.length co22]] rfl gmp ?_; (with_reducible refine (impl_BayBalance.calls k1 t369 _ _ t370 t400 t401 _ ?side1 ?side2 A41.out).mono ?_); (case side1 => exact cdl (Kd.S_reads' HO_377001.out).2.2); (case side2 => exact (Kd.S_reads' HO_377001.out).2.1); rintro e w47 ⟨rfl, hb⟩; refine ⟨_, rfl, ?_⟩; have n0_ := Aside0.mk (Kd.R_below (rdl HO_9) hb); have n1_ := Aside0.mk (Kd.R_below (rdl HO_13) hb); have n2_ := Aside0.mk (Kd.S_below (sdl HO_377001) hb); have n3_ := Aside0.mk (blk_below (g := gb376) (o := .cells #[.int .i64 t369, .slice Ao22 t370.length co22] 26 (0, 0)) (bkl BK376) hb); have n4_ := Aside0.mk (below_step (bel1 HB GE376) hb); clear HO_9; clear HO_13; clear HO_377001; clear BK376; clear HB; have HO_9 := n0_; have HO_13 := n1_; have HO_377001 := n2_; have BK376 := n3_; have HB := n4_; clear n0_ n1_ n2_ n3_ n4_; (try clear hb); (try clear hb2); (try clear hk); (try clear hi); have hcz48_0 : w47.cell? ⟨gb376, 0, none⟩ = some (.int .i64 t369) := (blk_cell BK376.out 0).trans rfl; have hcz48_1 : w47.cell? ⟨gb376, 1, none⟩ = some (.slice Ao22 t370.length co22) := (blk_cell BK376.out 1).trans rfl; have hfz48_0 := blk_frozen BK376.out 0; have hfz48_1 := blk_frozen BK376.out 1) | ((with_reducible refine gate_callee (f := 12) rfl ?_); refine goesL_ (some 105) rfl rfl Try.func12 (by kernel_rfl) rfl #[.agg #[.int .i64 t369, .slice Ao22 t370.length co22]] rfl gmp ?_; (with_reducible refine (spec_BayBalance.calls k1 t369 _ _ t370 t402 t403 _ ?side1 ?side2 A42.out).mono ?_); (case side1 => exact cdl (Kd.S_reads' HO_377001.out).2.2); (case side2 => exact (Kd.S_reads' HO_377001.out).2.1); rintro e w49 ⟨rfl, hb⟩; refine ⟨_, rfl, ?_⟩; have n0_ := Aside0.mk (Kd.R_below (rdl HO_9) hb); have n1_ := Aside0.mk (Kd.R_below (rdl HO_13) hb); have n2_ := Aside0.mk (Kd.S_below (sdl HO_377001) hb); have n3_ := Aside0.mk (blk_below (g := gb376) (o := .cells #[.int .i64 t369, .slice Ao22 t370.length co22] 26 (0, 0)) (bkl BK376) hb); have n4_ := Aside0.mk (below_step (bel1 HB GE376) hb); clear HO_9; clear HO_13; clear HO_377001; clear BK376; clear HB; have HO_9 := n0_; have HO_13 := n1_; have HO_377001 := n2_; have BK376 := n3_; have HB := n4_; clear n0_ n1_ n2_ n3_ n4_; (try clear hb); (try clear hb2); (try clear hk); (try clear hi)))
  go_ret
  exact ⟨by first | rfl | (simp [errW_none, errW_some] <;> rfl) | (simp [*, errW_none, errW_some] <;> rfl), bel1 HB GE376⟩
/-- THE ONE PURE STATEMENT of laws_FnUnloading. -/
def laws_FnUnloading.Pure : Prop := ∀ (l0 : List Int), (l0.length ≤ maxLen ∧ ∀ z404, z404 ∈ l0 → (Lit.int .u8 z404).wf = true) → ∃ k, laws_FnUnloading.f k l0 = some true
theorem laws_FnUnloading.walk (P : laws_FnUnloading.Pure) (A0 : Option Addr) (c0 : Nat) (l0 : List Int) (w : World) (hr0 : Kd.C (Kd.int .u8) w A0 l0.length l0) (hc0 : l0.length ≤ c0) (g0 : (l0.length ≤ maxLen ∧ ∀ z405, z405 ∈ l0 → (Lit.int .u8 z405).wf = true)) :
  Calls Try.prog 3 #[.slice A0 l0.length c0] w fun e w' => e = .returned (.bool true) ∧ Below w.heap.size w w' := by
 obtain ⟨k, h⟩ := P l0 g0
 refine (laws_FnUnloading.calls k _ _ l0 true w hr0 hc0 h).mono ?_
 rintro e w' ⟨rfl, hd⟩
 exact ⟨rfl, hd⟩
end Go.Proofs.Ytdooakhjaffcdaa.P
