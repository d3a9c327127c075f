-- Written by a program of this session over the translation (a variant of the printer, see wip/gen); Lean checks it.
import Derived.Test.YtmmkpaoibekmjaaPx0
import Derived.Test.YtmmkpaoibekmjaaPx8
import Derived.Test.YtmmkpaoibekmjaaPx9
import Derived.Test.YtmmkpaoibekmjaaPx10
import Derived.Test.YtmmkpaoibekmjaaPx14
namespace Go.Proofs.Ytmmkpaoibekmjaa.P
open Go.RowKit Go.Proofs.YtmmkpaoibekmjaaW.PrintWords Go.Proofs.YtmmkpaoibekmjaaW.PrintLast Go.Proofs.YtmmkpaoibekmjaaW.PrintMore
attribute [local go_sem] Go.Proofs.Ytmmkpaoibekmjaa.V.isSome_setCell max2_int min2_int max_two min_two max_three min_three max_four min_four
set_option linter.unusedVariables false
set_option linter.unusedSimpArgs false
/-! ### impl_ownYard: function 38 -/
def impl_ownYard.l0 : Nat → List (List Int) → Int → Int → List (List Int) → Option ((List (List Int)))
 | 0, _, _, _, _ => none
 | k + 1, x9, x10, x11, x302000 => if x11 < x10 then (if 0 ≤ x11 then (if x11 < (x9.length : Int) then ((slices_Clone_int_int.f (rd_L1 x9 x11)).bind fun t303 => (if x302000.length < 5864062014805 then (impl_ownYard.l0 k x9 x10 (wrap64 (x11 + 1)) (x302000 ++ [t303])) else (none))) else (none)) else (none)) else (some x302000)
def impl_ownYard.f (k : Nat) (l0_0 : List (List Int)) : Option ((List (List Int))) := impl_ownYard.l0 k l0_0 (l0_0.length : Int) 0 (([] : List (List Int)))
theorem impl_ownYard.mono_l : ∀ k, (∀ y0 y1 y2 y3, LeO (impl_ownYard.l0 k y0 y1 y2 y3) (impl_ownYard.l0 (k + 1) y0 y1 y2 y3))
 | 0 => fun _ _ _ _ r h => by simp [impl_ownYard.l0] at h
 | k + 1 => by
  have ih0 := impl_ownYard.mono_l k
  ·intro y0 y1 y2 y3
   unfold impl_ownYard.l0
   repeat' first
   | (with_reducible exact ih0 _ _ _ _)
   | (with_reducible exact LeO.refl _)
   | (with_reducible exact LeO.none _)
   | (with_reducible refine LeO.ite ?_ ?_)
   | (with_reducible refine LeO.bind ?_ (fun _ => ?_))
   | exact ih0 _ _ _ _
   | exact LeO.none _
   | refine LeO.ite ?_ ?_
   | refine LeO.bind ?_ (fun _ => ?_)
theorem impl_ownYard.mono : ∀ a0 k, LeO (impl_ownYard.f k a0) (impl_ownYard.f (k + 1) a0) := by
 intro a0 k
 have ih0 := impl_ownYard.mono_l k
 unfold impl_ownYard.f
 repeat' first
   | (with_reducible exact ih0 _ _ _ _)
   | (with_reducible exact LeO.refl _)
   | (with_reducible exact LeO.none _)
   | (with_reducible refine LeO.ite ?_ ?_)
   | (with_reducible refine LeO.bind ?_ (fun _ => ?_))
   | exact ih0 _ _ _ _
   | exact LeO.none _
   | refine LeO.ite ?_ ?_
   | refine LeO.bind ?_ (fun _ => ?_)
def impl_ownYard.T5 : Bool × List (List Nat × List Nat) := (true, [([], []), ([0], [0]), ([], []), ([2], [2]), ([3], [3]), ([1, 4, 3], [1, 4]), ([0, 1, 2, 3, 4, 5], []), ([6, 5, 5, 0, 1, 2, 3, 4, 5], [5, 6])])
def impl_ownYard.B5 : List Nat := [0, 1, 0, 4, 12, 31, 63, 127]
theorem impl_ownYard.tab5 : rtab .any (opsOf Try.f38 5) = impl_ownYard.T5 := by kernel_rfl
theorem impl_ownYard.bits5 : waitsOk impl_ownYard.T5.2 impl_ownYard.B5 = true := by kernel_rfl
set_option maxHeartbeats 8000000 in
set_option maxRecDepth 100000 in
theorem impl_ownYard.calls (k : Nat) (A0_0 : Option Addr) (c0_0 : Nat) (l0_0 : List (List Int)) (r : List (List Int)) (w : World) (hr0_0 : Kd.C (Kd.slice 3 (Kd.int .i64)) w A0_0 l0_0.length l0_0) (hc0_0 : l0_0.length ≤ c0_0) (h : impl_ownYard.f k l0_0 = some r) :
  Calls Try.prog 38 #[.agg #[.slice A0_0 l0_0.length c0_0]] w fun e w' => ∃ v0_ : Value, e = .returned (.agg #[v0_]) ∧ Kd.S (Kd.slice 3 (Kd.int .i64)) 25 w' w.heap.size (fun _ => True) v0_ r ∧ Below w.heap.size w w' := by
 have hu29 := Try.underlying29
 have HR0_0 := Aside0.mk hr0_0
 have HC0_0 := Aside0.mk hc0_0
 clear hr0_0 hc0_0
 have HB := Aside0.mk (Below.refl w.heap.size w)
 have H : (impl_ownYard.l0 k l0_0 (l0_0.length : Int) 0 (([] : List (List Int)))) = some r := h
 clear h
 obtain ⟨y298, hy298⟩ : ∃ y_ : List (List Int), y_ = (([] : List (List Int))) := ⟨_, rfl⟩
 replace H : (impl_ownYard.l0 k l0_0 (l0_0.length : Int) 0 y298) = some r := by first | (rw [hy298]; with_reducible exact H) | (have H2_ := (Option.bind_some _ _).symm.trans H; rw [hy298]; with_reducible exact H2_) | (have H2_ := (Option.bind_some _ _).symm.trans H; with_reducible exact H2_) | with_reducible exact H | (rw [hy298]; exact H) | exact H
 have Ny298 := Aside0.mk hy298
 clear hy298
 have H' := Aside0.mk H
 clear H
 go_enter Try.func38, Try.ntmps38
 go_wp2_with (first | ((with_reducible refine gate_dst (N := 1) rfl ?_); refine box_event ?hg (N := 1) ?hd (cs := #[.slice A0_0 l0_0.length c0_0]) (t := 29) ?hr ?_; (case hd => rfl); (case hg => rfl); (case hr => first | (go_simp; done) | (go_simp; rfl)); intro gb296 hg w2 hbox hb; have n0_ := Aside0.mk (below_step (bel HB) hb); have n1_ := Aside0.mk (hbox); have n2_ := Aside0.mk ((by rw [hg]; exact (below_size (bel HB)) : w.heap.size ≤ gb296)); have n3_ := Aside0.mk ((by rw [hg]; exact (below_size (bel HB)) : w.heap.size ≤ gb296)); clear HB; have HB := n0_; have BK296 := n1_; have GW296 := n2_; have GE296 := n3_; clear n0_ n1_ n2_ n3_; clear hb hbox hg) | ((with_reducible refine gate_dst (N := 2) rfl ?_); refine box_event ?hg (N := 2) ?hd (cs := #[.slice none 0 0]) (t := 29) ?hr ?_; (case hd => rfl); (case hg => rfl); (case hr => first | (go_simp; done) | (go_simp; rfl)); intro gb297 hg w3 hbox hb; have n0_ := Aside0.mk (blk_below (g := gb296) (o := .cells #[.slice A0_0 l0_0.length c0_0] 29 (0, 0)) (bkl BK296) hb); have n1_ := Aside0.mk (below_step (bel1 HB GE296) hb); have n2_ := Aside0.mk (hbox); have n3_ := Aside0.mk ((by rw [hg]; exact (below_size (bel1 HB GE296)) : w.heap.size ≤ gb297)); have n4_ := Aside0.mk ((by rw [hg]; exact (below_size (bel1 HB GE296)) : w.heap.size ≤ gb297)); have n5_ := Aside0.mk ((by rw [hg]; exact Nat.ne_of_lt (blk_lt (g := gb296) (o := .cells #[.slice A0_0 l0_0.length c0_0] 29 (0, 0)) (bkl BK296)) : gb296 ≠ gb297)); have n6_ := Aside0.mk ((by rw [hg]; exact Nat.ne_of_gt (blk_lt (g := gb296) (o := .cells #[.slice A0_0 l0_0.length c0_0] 29 (0, 0)) (bkl BK296)) : gb297 ≠ gb296)); clear BK296; clear HB; have BK296 := n0_; have HB := n1_; have BK297 := n2_; have GW297 := n3_; have GE297 := n4_; have NB296_297 := n5_; have NB297_296 := n6_; clear n0_ n1_ n2_ n3_ n4_ n5_ n6_; clear hb hbox hg) | ((with_reducible refine gate_dst (N := 6) rfl ?_); refine Kd.S_lit (Kd.slice 3 (Kd.int .i64)) _ 25 ?hg (N := 6) ?hd (xs := ([] : List (List Int))) (inner := []) (ok := fun _ => True) (okp := fun _ => True) ?hr ?hp (fun _ hk => hk) trivial (Below.refl _ _) (Nat.le_refl _) (by simp) ?_; (case hd => rfl); (case hg => rfl); (case hr => first | (go_simp; done) | (go_simp; rfl)); (case hp => exact (Reps.none _ _)); intro v299 w4 ho5 hb hg_ hnew_; clear hg_ hnew_; (first | rw [← Ny298.out] at ho5 | (simp only [Int.reduceToNat] at ho5; rw [← Ny298.out] at ho5)); have n0_ := Aside0.mk (Kd.S_lower ho5 (below_size (bel2 HB GE296 GE297))); have n1_ := Aside0.mk (blk_below (g := gb296) (o := .cells #[.slice A0_0 l0_0.length c0_0] 29 (0, 0)) (bkl BK296) hb); have n2_ := Aside0.mk (blk_below (g := gb297) (o := .cells #[.slice none 0 0] 29 (0, 0)) (bkl BK297) hb); have n3_ := Aside0.mk (below_step (bel2 HB GE296 GE297) hb); clear BK296; clear BK297; clear HB; have HO300 := n0_; have BK296 := n1_; have BK297 := n2_; have HB := n3_; clear n0_ n1_ n2_ n3_; clear hb ho5; obtain ⟨Ao6, co6, eo6⟩ := Kd.S_slice HO300.out; subst eo6) | ((with_reducible refine gate_dst (N := 3) rfl ?_); refine box_event ?hg (N := 3) ?hd (cs := #[.slice none 0 0]) (t := 29) ?hr ?_; (case hd => rfl); (case hg => rfl); (case hr => first | (go_simp; done) | (go_simp; rfl)); intro gb301 hg w7 hbox hb; have n0_ := Aside0.mk (Kd.S_below (sdl HO300) hb); have n1_ := Aside0.mk (blk_below (g := gb296) (o := .cells #[.slice A0_0 l0_0.length c0_0] 29 (0, 0)) (bkl BK296) hb); have n2_ := Aside0.mk (blk_below (g := gb297) (o := .cells #[.slice none 0 0] 29 (0, 0)) (bkl BK297) hb); have n3_ := Aside0.mk (below_step (bel2 HB GE296 GE297) hb); have n4_ := Aside0.mk (hbox); have n5_ := Aside0.mk ((by rw [hg]; exact (below_size (bel2 HB GE296 GE297)) : w.heap.size ≤ gb301)); have n6_ := Aside0.mk ((by rw [hg]; exact (below_size (bel2 HB GE296 GE297)) : w.heap.size ≤ gb301)); have n7_ := Aside0.mk ((by rw [hg]; exact Nat.ne_of_lt (blk_lt (g := gb296) (o := .cells #[.slice A0_0 l0_0.length c0_0] 29 (0, 0)) (bkl BK296)) : gb296 ≠ gb301)); have n8_ := Aside0.mk ((by rw [hg]; exact Nat.ne_of_gt (blk_lt (g := gb296) (o := .cells #[.slice A0_0 l0_0.length c0_0] 29 (0, 0)) (bkl BK296)) : gb301 ≠ gb296)); have n9_ := Aside0.mk ((by rw [hg]; exact Nat.ne_of_lt (blk_lt (g := gb297) (o := .cells #[.slice none 0 0] 29 (0, 0)) (bkl BK297)) : gb297 ≠ gb301)); have n10_ := Aside0.mk ((by rw [hg]; exact Nat.ne_of_gt (blk_lt (g := gb297) (o := .cells #[.slice none 0 0] 29 (0, 0)) (bkl BK297)) : gb301 ≠ gb297)); clear HO300; clear BK296; clear BK297; clear HB; have HO300 := n0_; have BK296 := n1_; have BK297 := n2_; have HB := n3_; have BK301 := n4_; have GW301 := n5_; have GE301 := n6_; have NB296_301 := n7_; have NB301_296 := n8_; have NB297_301 := n9_; have NB301_297 := n10_; clear n0_ n1_ n2_ n3_ n4_ n5_ n6_ n7_ n8_ n9_ n10_; clear hb hbox hg; have hnb8 := NB301_296.out; have hnc8 := NB296_301.out; have hnb9 := NB301_297.out; have hnc9 := NB297_301.out; have hcz10_0 : w7.cell? ⟨gb301, 0, none⟩ = some (.slice none 0 0) := (blk_cell BK301.out 0).trans rfl; have hfz10_0 := blk_frozen BK301.out 0; have hnb11 := NB296_297.out; have hnc11 := NB297_296.out; have hcz12_0 : w7.cell? ⟨gb296, 0, none⟩ = some (.slice A0_0 l0_0.length c0_0) := (blk_cell BK296.out 0).trans rfl; have hfz12_0 := blk_frozen BK296.out 0))
 go_loopg [11] k (fun kq v11 w' => ∃ (x11_1 : Int) (x302000_1 : List (List Int)) (u302000 : Value), v11 = .int .i64 x11_1 ∧ Aside0 (impl_ownYard.l0 kq l0_0 (l0_0.length : Int) x11_1 x302000_1 = some r) ∧ Aside0 (kq ≤ k) ∧ Aside0 (Kd.S (Kd.slice 3 (Kd.int .i64)) 25 w' w.heap.size (fun _ => True) u302000 x302000_1) ∧ Aside0 (w'.heap[gb296]? = some (.cells #[(.slice A0_0 l0_0.length c0_0)] 29 (0, 0))) ∧ Aside0 (w'.heap[gb297]? = some (.cells #[(.slice none 0 0)] 29 (0, 0))) ∧ Aside0 (w'.heap[gb301]? = some (.cells #[u302000] 29 (0, 0))) ∧ Aside0 (Below w.heap.size w w'))
 case atStart => exact ⟨(0), (y298), (.slice Ao6 y298.length co6), (by first | rfl | (simp; done) | (simp [*]; done)), H', ⟨Nat.le_refl _⟩, ⟨by (with_reducible repeat (first | apply Kd.S_alloc | apply Kd.S_drewN | apply Kd.S_drew)); exact Kd.S_mono (Kd.S_far (p := ⟨gb301, 0, none⟩) (Kd.S_types HO300.out BK301.out (by decide)) (fun _ hk => hk.2) (.slice Ao6 y298.length co6)) (fun _ hk => trivial)⟩, ⟨by (with_reducible repeat (first | refine blk_drewN ?_ _ | refine blk_drew ?_ | refine blk_alloc ?_ _)); refine blk_far ?_ NB296_301.out _; (with_reducible repeat (first | refine blk_drewN ?_ _ | refine blk_drew ?_ | refine blk_alloc ?_ _)); exact BK296.out⟩, ⟨by (with_reducible repeat (first | refine blk_drewN ?_ _ | refine blk_drew ?_ | refine blk_alloc ?_ _)); refine blk_far ?_ NB297_301.out _; (with_reducible repeat (first | refine blk_drewN ?_ _ | refine blk_drew ?_ | refine blk_alloc ?_ _)); exact BK297.out⟩, ⟨by (with_reducible repeat (first | refine blk_drewN ?_ _ | refine blk_drew ?_ | refine blk_alloc ?_ _)); refine blk_put (cs := #[.slice none 0 0]) ?_ 0 _ rfl; (with_reducible repeat (first | refine blk_drewN ?_ _ | refine blk_drew ?_ | refine blk_alloc ?_ _)); exact BK301.out⟩, ⟨bel3 HB GE296 GE297 GE301⟩⟩
 clear H'
 try clear c1
 try clear p2
 try clear c3
 try clear c8
 try clear c9
 try clear c11
 try clear hcz10_0
 try clear hcz12_0
 try clear hfz10_0
 try clear hfz12_0
 obtain ⟨x11_1, x302000_1, u302000, rfl, HA, HK1, HO_302000, BK296, BK297, BK301, HB⟩ := hrel
 cases gk with
 | zero => exact absurd HA.out (by simp [impl_ownYard.l0])
 | succ k1 =>
  have H := HA.out
  clear HA
  simp only [impl_ownYard.l0] at H
  by_cases c13 : x11_1 < (l0_0.length : Int)
  rotate_left
  ·rw [if_neg c13] at H
   have c13b0 : decide (x11_1 < (l0_0.length : Int)) = false := decide_eq_false c13
   clear c13
   obtain rfl := Option.some.inj H
   have hnb24 := NB301_296.out
   have hnc24 := NB296_301.out
   have hnb25 := NB301_297.out
   have hnc25 := NB297_301.out
   have hcz26_0 : wr.cell? ⟨gb301, 0, none⟩ = some (u302000) := (blk_cell BK301.out 0).trans rfl
   have hfz26_0 := blk_frozen BK301.out 0
   obtain ⟨Ao27, co27, eo27⟩ := Kd.S_slice HO_302000.out
   subst eo27
   have hnb28 := NB297_296.out
   have hnc28 := NB296_297.out
   have hcz29_0 : wr.cell? ⟨gb297, 0, none⟩ = some (.slice none 0 0) := (blk_cell BK297.out 0).trans rfl
   have hfz29_0 := blk_frozen BK297.out 0
   go_wp2
   refine bodyPost_ret (results_cell_row rfl _ _ gb297 29 #[.slice Ao27 x302000_1.length co27] (0, 0) _ rfl (by (with_reducible repeat (first | refine blk_drewN ?_ _ | refine blk_drew ?_ | refine blk_alloc ?_ _)); refine blk_put (cs := #[.slice none 0 0]) ?_ 0 _ rfl; (with_reducible repeat (first | refine blk_drewN ?_ _ | refine blk_drew ?_ | refine blk_alloc ?_ _)); exact BK297.out) Try.underlying29 rfl (by kernel_rfl)) rfl ?_
   exact ⟨_, by first | rfl | (simp [errW_none, errW_some] <;> rfl) | (simp [*, errW_none, errW_some] <;> rfl), by (with_reducible repeat (first | apply Kd.S_alloc | apply Kd.S_drewN | apply Kd.S_drew)); exact Kd.S_mono (Kd.S_far (p := ⟨gb297, 0, none⟩) (Kd.S_types HO_302000.out BK297.out (by decide)) (fun _ hk => hk.2) (.slice Ao27 x302000_1.length co27)) (fun _ hk => trivial), bel3 HB GE296 GE297 GE301⟩
  rw [if_pos c13] at H
  have c13b0 : decide (x11_1 < (l0_0.length : Int)) = true := decide_eq_true c13
  clear c13
  by_cases c14 : 0 ≤ x11_1
  rotate_left
  ·rw [if_neg c14] at H
   exact absurd H (by simp)
  rw [if_pos c14] at H
  have c14b0 : decide (0 ≤ x11_1) = true := decide_eq_true c14
  clear c14
  by_cases c15 : x11_1 < (l0_0.length : Int)
  rotate_left
  ·rw [if_neg c15] at H
   exact absurd H (by simp)
  rw [if_pos c15] at H
  have c15b0 : decide (x11_1 < (l0_0.length : Int)) = true := decide_eq_true c15
  clear c15
  replace H := Option.bind_eq_some_iff.mp H
  obtain ⟨t303, A160, H⟩ := H
  replace H : (if x302000_1.length < 5864062014805 then (impl_ownYard.l0 k1 l0_0 (l0_0.length : Int) (wrap64 (x11_1 + 1)) (x302000_1 ++ [t303])) else (none)) = some r := H
  have A16 := Aside0.mk A160
  clear A160
  by_cases c17 : x302000_1.length < 5864062014805
  rotate_left
  ·rw [if_neg c17] at H
   exact absurd H (by simp)
  rw [if_pos c17] at H
  have LMc17 := Aside0.mk c17
  clear c17
  obtain ⟨y306, hy306⟩ : ∃ y_ : List (List Int), y_ = (x302000_1 ++ [t303]) := ⟨_, rfl⟩
  replace H : (impl_ownYard.l0 k1 l0_0 (l0_0.length : Int) (wrap64 (x11_1 + 1)) y306) = some r := by first | (rw [hy306]; with_reducible exact H) | (have H2_ := (Option.bind_some _ _).symm.trans H; rw [hy306]; with_reducible exact H2_) | (have H2_ := (Option.bind_some _ _).symm.trans H; with_reducible exact H2_) | with_reducible exact H | (rw [hy306]; exact H) | exact H
  have Ny306 := Aside0.mk hy306
  clear hy306
  have H' := Aside0.mk H
  clear H
  have p302 : 0 ≤ (x11_1 : Int) := oda
  have q302 : x11_1 < (l0_0.length : Int) := oda
  obtain ⟨ad302, A302_0, c302_0, e302, hx302_0, hl302_0, hi302_0⟩ := at_L1 HR0_0.out x11_1 p302 q302
  cases e302
  replace hx302_0 := cel HB hx302_0
  have HR302_0 := Aside0.mk hi302_0
  have HC302_0 := Aside0.mk hl302_0
  clear hi302_0 hl302_0
  replace p302 := eq_true p302
  replace q302 := eq_true q302
  try go_wp2
  have n0_ := Aside0.mk (Kd.S_drew HO_302000.out)
  have n1_ := Aside0.mk (blk_drew BK296.out)
  have n2_ := Aside0.mk (blk_drew BK297.out)
  have n3_ := Aside0.mk (blk_drew BK301.out)
  have n4_ := Aside0.mk (below_drew1 HB.out)
  clear HO_302000 BK296 BK297 BK301 HB
  have HO_302000 := n0_
  have BK296 := n1_
  have BK297 := n2_
  have BK301 := n3_
  have HB := n4_
  clear n0_ n1_ n2_ n3_ n4_
  refine start_ (n := 8) (S := fun w' => w'.cell? ⟨gb301, 0, none⟩ = some (u302000)) (ds := [7]) #[false, false, false, false, false, false, false, false] (by kernel_rfl) rfl rfl ((blk_cell BK301.out 0).trans rfl) (fun hHeld => ?_); refine with_tabW impl_ownYard.tab5 impl_ownYard.bits5 (fun HT_ HW_ => ?_)
  generalize wr.drew = w18 at HO_302000 BK296 BK297 BK301 HB hHeld ⊢
  refine pure_ (i := 0) (N := some 15) (v := ?_) (a' := ?_) #[true, false, false, false, false, false, false, false] rfl rfl (any_of HT_.out (by kernel_rfl)) (fun _ _ _ h => h) (Or.inl ⟨by rfl, ?_⟩) ?_ ?_
  rotate_left
  ·intro w'
   go_simp
   with_reducible rfl
  rotate_left
  ·simp only [putS]
   rfl
  refine pure_ (i := 2) (N := some 17) (v := ?_) (a' := ?_) #[true, false, true, false, false, false, false, false] rfl rfl (any_of HT_.out (by kernel_rfl)) (fun _ _ _ h => h) (Or.inl ⟨by rfl, ?_⟩) ?_ ?_
  rotate_left
  ·intro w'
   go_simp
   with_reducible rfl
  rotate_left
  ·simp only [putS]
   rfl
  refine take_ (i := 1) (N := some 16) (v := ?_) (a' := ?_) #[true, true, true, false, false, false, false, false] rfl rfl (take_ofW HT_.out HW_.out (by kernel_rfl)) (fun _ _ _ h => h) (Or.inl ⟨by rfl, ?_⟩) hHeld ?_ ?_
  rotate_left
  ·intro w' s0
   go_simp
   with_reducible rfl
  rotate_left
  ·simp only [putS]
   rfl
  refine one_ (i := 3) (N := some 18) #[true, true, true, true, false, false, false, false] rfl rfl (one_of HT_.out (by kernel_rfl)) (by decide) (fun K hK => ?_)
  refine goes_ Try.func36 (by kernel_rfl) rfl #[.slice A302_0 (rd_L1 l0_0 x11_1).length c302_0] (by rfl) rfl rfl gmp ?_
  with_reducible refine (slices_Clone_int_int.calls _ _ (rd_L1 l0_0 x11_1) t303 _ ?side1 ?side2 A16.out).mono ?_
  (case side1 => exact cdl (Kd.C_below HR302_0.out HB.out))
  (case side2 => exact HC302_0.out)
  rintro e w19 ⟨v304, rfl, ho0, hb⟩
  refine ⟨_, rfl, ?_⟩
  have n0_ := Aside0.mk (Kd.S_elder' (sdl HO_302000) (Kd.R_base ho0) hb)
  have n1_ := Aside0.mk (Kd.R_lower ho0 (below_size (bel3 HB GE296 GE297 GE301)))
  have n2_ := Aside0.mk (blk_below (g := gb296) (o := .cells #[.slice (some ad302) l0_0.length c0_0] 29 (0, 0)) (bkl BK296) hb)
  have n3_ := Aside0.mk (blk_below (g := gb297) (o := .cells #[.slice none 0 0] 29 (0, 0)) (bkl BK297) hb)
  have n4_ := Aside0.mk (blk_below (g := gb301) (o := .cells #[u302000] 29 (0, 0)) (bkl BK301) hb)
  have n5_ := Aside0.mk (below_step (bel3 HB GE296 GE297 GE301) hb)
  clear HO_302000 BK296 BK297 BK301 HB
  have HO_302000 := n0_
  have HO305 := n1_
  have BK296 := n2_
  have BK297 := n3_
  have BK301 := n4_
  have HB := n5_
  clear n0_ n1_ n2_ n3_ n4_ n5_
  (try clear hb)
  (try clear hb2)
  (try clear hk)
  (try clear hi)
  (try clear ho0)
  obtain ⟨Ao21, co21, eo21⟩ := Kd.R_slice HO305.out
  (first | subst eo21 | (injection eo21 with f1_ f2_ f3_; have f4_ := f1_.symm; have f5_ := f3_.symm; clear f1_ f2_ f3_; subst f4_; subst f5_))
  refine hK.out _ _ ((blk_cell BK301.out 0).trans rfl) (fun hHeld => ?_)
  clear hK K
  refine norm_ (a' := ?_) ?_ ?_
  rotate_left
  ·show Act.put _ (some 18) _ = _
   simp only [putS]
   rfl
  refine one_ (i := 4) (N := some 19) #[true, true, true, true, true, false, false, false] rfl rfl (one_of HT_.out (by kernel_rfl)) (by decide) (fun K hK => ?_)
  refine value_ (w1 := ?_) (v := ?_) (by rfl) rfl ?_ ?_
  rotate_left 2
  ·go_simp
   constructor
   ·rfl
   rfl
  refine hK.out _ _ ((blk_cell (blk_alloc BK301.out _) 0).trans rfl) (fun hHeld => ?_)
  clear hK K
  refine norm_ (a' := ?_) ?_ ?_
  rotate_left
  ·show Act.put _ (some 19) _ = _
   simp only [putS]
   rfl
  refine one_ (i := 5) (N := some 20) #[true, true, true, true, true, true, false, false] rfl rfl (one_of HT_.out (by kernel_rfl)) (by decide) (fun K hK => ?_)
  refine Kd.S_append_step (Kd.slice 3 (Kd.int .i64)) (w0 := w) w.heap.size (by rfl) (.tmp 16) (.tmp 19) 22 25 (.slice none 0 0) 24 rfl Try.underlying22 info25 rfl (by decide) (by omega) u302000 x302000_1 t303 [.slice Ao21 t303.length co21] (fun _ => True) (fun k_ => some k_ = (.slice Ao21 t303.length co21 : Value).ownBlock) rfl rfl ?aP (fun k_ hk_ => ((Kd.R_mono (ok' := fun k_ => ((fun _ => True)) k_ ∧ some k_ ≠ (u302000 : Value).ownBlock) (Kd.R_apart' (HO305.out) (Kd.S_typed HO_302000.out) (by decide)) (fun k_ hk => ⟨trivial, hk.2⟩))).1 k_ hk_.symm) ?aF ?aO ?aB ?aS ?aL ?_
  (case aP => exact Kd.M_row (Kd.R_mono (Kd.R_tight rfl (Kd.R_mono (ok' := fun k_ => ((fun _ => True)) k_ ∧ some k_ ≠ (u302000 : Value).ownBlock) (Kd.R_apart' (HO305.out) (Kd.S_typed HO_302000.out) (by decide)) (fun k_ hk => ⟨trivial, hk.2⟩))) (fun _ h_ => h_)))
  (case aB => exact (bel3 HB GE296 GE297 GE301))
  (case aF => exact (fun _ _ => trivial))
  (case aO => exact (by (with_reducible repeat (first | apply Kd.S_alloc | apply Kd.S_drewN | apply Kd.S_drew)); exact Kd.S_mono HO_302000.out (fun k_ hk => ⟨trivial, fun e_ => hk.2 e_⟩)))
  (case aS => exact (below_size (bel3 HB GE296 GE297 GE301)))
  (case aL => have := LMc17.out; omega)
  intro v307 w20 ho hb hg hat
  rw [← Ny306.out] at ho
  have n0_ := Aside0.mk (blk_grown (g := gb296) (o := .cells #[.slice (some ad302) l0_0.length c0_0] 29 (0, 0)) (bkl BK296) hg (Kd.S_ne HO_302000.out BK296.out (by decide)))
  have n1_ := Aside0.mk (blk_grown (g := gb297) (o := .cells #[.slice none 0 0] 29 (0, 0)) (bkl BK297) hg (Kd.S_ne HO_302000.out BK297.out (by decide)))
  have n2_ := Aside0.mk (blk_grown (g := gb301) (o := .cells #[u302000] 29 (0, 0)) (bkl BK301) hg (Kd.S_ne HO_302000.out BK301.out (by decide)))
  have n3_ := Aside0.mk (hb)
  have n4_ := Aside0.mk (ho)
  clear BK296 BK297 BK301 HB HO_302000 HO305
  have BK296 := n0_
  have BK297 := n1_
  have BK301 := n2_
  have HB := n3_
  have HO308 := n4_
  clear n0_ n1_ n2_ n3_ n4_ ho hb hg hat
  obtain ⟨Ao22, co22, eo22⟩ := Kd.S_slice HO308.out
  (first | subst eo22 | (injection eo22 with f1_ f2_ f3_; have f4_ := f1_.symm; have f5_ := f3_.symm; clear f1_ f2_ f3_; subst f4_; subst f5_))
  refine hK.out _ _ ((blk_cell BK301.out 0).trans rfl) (fun hHeld => ?_)
  clear hK K
  refine norm_ (a' := ?_) ?_ ?_
  rotate_left
  ·show Act.put _ (some 20) _ = _
   simp only [putS]
   rfl
  refine pure_ (i := 6) (N := some 21) (v := ?_) (a' := ?_) #[true, true, true, true, true, true, true, false] rfl rfl (any_of HT_.out (by kernel_rfl)) (fun _ _ _ h => h) (Or.inl ⟨by rfl, ?_⟩) ?_ ?_
  rotate_left
  ·intro w'
   go_simp
   with_reducible rfl
  rotate_left
  ·simp only [putS]
   rfl
  refine last_ (i := 7) (N := none) #[true, true, true, true, true, true, true, true] rfl rfl (one_of HT_.out (by kernel_rfl)) (by decide) (fun K hK => ?_)
  have hs23 : w20.cell? ⟨gb301, 0, none⟩ = some (u302000) := (blk_cell BK301.out 0).trans rfl
  have hfs23 := blk_frozen BK301.out 0
  have hns23_0 := NB296_301.out
  have hns23_1 := NB297_301.out
  have hms23_0 := NB301_296.out
  have hms23_1 := NB301_297.out
  refine skip_ (w1 := ?_) (by rfl) rfl ?_ ?_
  rotate_left
  ·go_simp
   rfl
  refine hK.out _ _ ?_
  clear hK K
  refine done_ (done_of HT_.out (by kernel_rfl)) ?_
  try go_wp2
  go_roundg k1
  case measure => have := HK1.out; omega
  case rel => exact ⟨(wrap64 (x11_1 + 1)), (y306), (.slice Ao22 y306.length co22), (by first | rfl | (simp; done) | (simp [*]; done)), H', ⟨by have := HK1.out; omega⟩, ⟨by (with_reducible repeat (first | apply Kd.S_alloc | apply Kd.S_drewN | apply Kd.S_drew)); exact Kd.S_mono (Kd.S_far (p := ⟨gb301, 0, none⟩) (Kd.S_types HO308.out BK301.out (by decide)) (fun _ hk => hk.2) (.slice Ao22 y306.length co22)) (fun _ hk => trivial)⟩, ⟨by (with_reducible repeat (first | refine blk_drewN ?_ _ | refine blk_drew ?_ | refine blk_alloc ?_ _)); refine blk_far ?_ NB296_301.out _; (with_reducible repeat (first | refine blk_drewN ?_ _ | refine blk_drew ?_ | refine blk_alloc ?_ _)); exact BK296.out⟩, ⟨by (with_reducible repeat (first | refine blk_drewN ?_ _ | refine blk_drew ?_ | refine blk_alloc ?_ _)); refine blk_far ?_ NB297_301.out _; (with_reducible repeat (first | refine blk_drewN ?_ _ | refine blk_drew ?_ | refine blk_alloc ?_ _)); exact BK297.out⟩, ⟨by (with_reducible repeat (first | refine blk_drewN ?_ _ | refine blk_drew ?_ | refine blk_alloc ?_ _)); refine blk_put (cs := #[u302000]) ?_ 0 _ rfl; (with_reducible repeat (first | refine blk_drewN ?_ _ | refine blk_drew ?_ | refine blk_alloc ?_ _)); exact BK301.out⟩, ⟨bel3 HB GE296 GE297 GE301⟩⟩
/-! ### impl_ApplyPlacement: function 21 -/
mutual
def impl_ApplyPlacement.j0 : Nat → List Int → List Int → Bool → List (List Int) → Option ((List (List Int)) × Bool)
 | 0, _, _, _, _ => none
 | k + 1, x1, x2, x27, x310000 => if x27 = true then (some (([] : List (List Int)), false)) else ((impl_ownYard.f k x310000).bind fun t313 => (impl_ApplyPlacement.l0 k x1 x2 (x2.length : Int) 0 t313))
def impl_ApplyPlacement.l0 : Nat → List Int → List Int → Int → Int → List (List Int) → Option ((List (List Int)) × Bool)
 | 0, _, _, _, _, _ => none
 | k + 1, x1, x31, x32, x33, x317000 => if x33 < x32 then (if 0 ≤ x33 then (if x33 < (x31.length : Int) then (if 0 ≤ (rd x31 x33) then (if (rd x31 x33) < (x317000.length : Int) then (if x33 < (x1.length : Int) then (if (rd_L1 x317000 (rd x31 x33)).length < 17592186044416 then (impl_ApplyPlacement.l0 k x1 x31 x32 (wrap64 (x33 + 1)) (x317000.set ((rd x31 x33) : Int).toNat ((rd_L1 x317000 (rd x31 x33)) ++ [rd x1 x33]))) else (none)) else (none)) else (none)) else (none)) else (none)) else (none)) else ((impl_IsValidYard.f x317000).bind fun t324 => (if t324 = true then (some (x317000, true)) else (some (([] : List (List Int)), false))))
end
def impl_ApplyPlacement.f (k : Nat) (l0_0 : List (List Int)) (l1 : List Int) (l2 : List Int) : Option ((List (List Int)) × Bool) := (impl_areArrivals.f k l0_0 l1).bind fun t311 => (if t311 = true then (if (l2.length : Int) = (l1.length : Int) then ((impl_hasStack.f l0_0 l2).bind fun t312 => (impl_ApplyPlacement.j0 k l1 l2 (!t312) l0_0)) else (impl_ApplyPlacement.j0 k l1 l2 true l0_0)) else (impl_ApplyPlacement.j0 k l1 l2 true l0_0))
theorem impl_ApplyPlacement.mono_l : ∀ k, (∀ y0 y1 y2 y3, LeO (impl_ApplyPlacement.j0 k y0 y1 y2 y3) (impl_ApplyPlacement.j0 (k + 1) y0 y1 y2 y3)) ∧ (∀ y0 y1 y2 y3 y4, LeO (impl_ApplyPlacement.l0 k y0 y1 y2 y3 y4) (impl_ApplyPlacement.l0 (k + 1) y0 y1 y2 y3 y4))
 | 0 => ⟨fun _ _ _ _ r h => by simp [impl_ApplyPlacement.j0] at h, fun _ _ _ _ _ r h => by simp [impl_ApplyPlacement.l0] at h⟩
 | k + 1 => by
  obtain ⟨ih0, ih1⟩ := impl_ApplyPlacement.mono_l k
  refine ⟨?_, ?_⟩
  ·intro y0 y1 y2 y3
   unfold impl_ApplyPlacement.j0
   repeat' first
   | (with_reducible exact ih0 _ _ _ _)
   | (with_reducible exact ih1 _ _ _ _ _)
   | (with_reducible exact impl_areArrivals.mono _ _ _)
   | (with_reducible exact impl_ownYard.mono _ _)
   | (with_reducible exact LeO.refl _)
   | (with_reducible exact LeO.none _)
   | (with_reducible refine LeO.ite ?_ ?_)
   | (with_reducible refine LeO.bind ?_ (fun _ => ?_))
   | exact ih0 _ _ _ _
   | exact ih1 _ _ _ _ _
   | exact impl_areArrivals.mono _ _ _
   | exact impl_ownYard.mono _ _
   | exact LeO.none _
   | refine LeO.ite ?_ ?_
   | refine LeO.bind ?_ (fun _ => ?_)
  ·intro y0 y1 y2 y3 y4
   unfold impl_ApplyPlacement.l0
   repeat' first
   | (with_reducible exact ih0 _ _ _ _)
   | (with_reducible exact ih1 _ _ _ _ _)
   | (with_reducible exact impl_areArrivals.mono _ _ _)
   | (with_reducible exact impl_ownYard.mono _ _)
   | (with_reducible exact LeO.refl _)
   | (with_reducible exact LeO.none _)
   | (with_reducible refine LeO.ite ?_ ?_)
   | (with_reducible refine LeO.bind ?_ (fun _ => ?_))
   | exact ih0 _ _ _ _
   | exact ih1 _ _ _ _ _
   | exact impl_areArrivals.mono _ _ _
   | exact impl_ownYard.mono _ _
   | exact LeO.none _
   | refine LeO.ite ?_ ?_
   | refine LeO.bind ?_ (fun _ => ?_)
theorem impl_ApplyPlacement.mono : ∀ a0 a1 a2 k, LeO (impl_ApplyPlacement.f k a0 a1 a2) (impl_ApplyPlacement.f (k + 1) a0 a1 a2) := by
 intro a0 a1 a2 k
 obtain ⟨ih0, ih1⟩ := impl_ApplyPlacement.mono_l k
 unfold impl_ApplyPlacement.f
 repeat' first
   | (with_reducible exact ih0 _ _ _ _)
   | (with_reducible exact ih1 _ _ _ _ _)
   | (with_reducible exact impl_areArrivals.mono _ _ _)
   | (with_reducible exact impl_ownYard.mono _ _)
   | (with_reducible exact LeO.refl _)
   | (with_reducible exact LeO.none _)
   | (with_reducible refine LeO.ite ?_ ?_)
   | (with_reducible refine LeO.bind ?_ (fun _ => ?_))
   | exact ih0 _ _ _ _
   | exact ih1 _ _ _ _ _
   | exact impl_areArrivals.mono _ _ _
   | exact impl_ownYard.mono _ _
   | exact LeO.none _
   | refine LeO.ite ?_ ?_
   | refine LeO.bind ?_ (fun _ => ?_)
def impl_ApplyPlacement.T7 : Bool × List (List Nat × List Nat) := (true, [([], []), ([0], [0]), ([], []), ([], []), ([3], [3]), ([], []), ([4, 5], [4, 5]), ([6], [6]), ([], []), ([], []), ([8, 9], [8, 9]), ([10], [10]), ([11], [11]), ([7, 12], [7, 12]), ([1, 2, 0, 1, 2, 3, 4, 5, 6, 7, 8, 9, 10, 11, 12, 13], [1, 2]), ([14, 13, 13, 0, 1, 2, 3, 4, 5, 6, 7, 8, 9, 10, 11, 12, 13], [13, 14])])
def impl_ApplyPlacement.B7 : List Nat := [0, 1, 0, 0, 8, 0, 56, 120, 0, 0, 768, 1792, 3840, 8184, 16383, 32767]
theorem impl_ApplyPlacement.tab7 : rtab .any (opsOf Try.f21 7) = impl_ApplyPlacement.T7 := by kernel_rfl
theorem impl_ApplyPlacement.bits7 : waitsOk impl_ApplyPlacement.T7.2 impl_ApplyPlacement.B7 = true := by kernel_rfl
set_option maxHeartbeats 8000000 in
set_option maxRecDepth 100000 in
theorem impl_ApplyPlacement.calls (k : Nat) (A0_0 : Option Addr) (c0_0 : Nat) (l0_0 : List (List Int)) (A1 : Option Addr) (c1 : Nat) (l1 : List Int) (A2 : Option Addr) (c2 : Nat) (l2 : List Int) (r1 : List (List Int)) (r2 : Bool) (w : World) (hr0_0 : Kd.C (Kd.slice 3 (Kd.int .i64)) w A0_0 l0_0.length l0_0) (hc0_0 : l0_0.length ≤ c0_0) (hr1 : Kd.C (Kd.int .i64) w A1 l1.length l1) (hc1 : l1.length ≤ c1) (hr2 : Kd.C (Kd.int .i64) w A2 l2.length l2) (hc2 : l2.length ≤ c2) (h : impl_ApplyPlacement.f k l0_0 l1 l2 = some (r1, r2)) :
  Calls Try.prog 21 #[.agg #[.slice A0_0 l0_0.length c0_0], .slice A1 l1.length c1, .slice A2 l2.length c2] w fun e w' => ∃ v0_ : Value, e = .returned (.tuple #[.agg #[v0_], .bool r2]) ∧ Kd.S (Kd.slice 3 (Kd.int .i64)) 25 w' w.heap.size (fun _ => True) v0_ r1 ∧ Below w.heap.size w w' := by
 have hu29 := Try.underlying29
 have HR0_0 := Aside0.mk hr0_0
 have HC0_0 := Aside0.mk hc0_0
 clear hr0_0 hc0_0
 have HR1 := Aside0.mk hr1
 have HC1 := Aside0.mk hc1
 clear hr1 hc1
 have HR2 := Aside0.mk hr2
 have HC2 := Aside0.mk hc2
 clear hr2 hc2
 have HB := Aside0.mk (Below.refl w.heap.size w)
 have H : ((impl_areArrivals.f k l0_0 l1).bind fun t311 => (if t311 = true then (if (l2.length : Int) = (l1.length : Int) then ((impl_hasStack.f l0_0 l2).bind fun t312 => (impl_ApplyPlacement.j0 k l1 l2 (!t312) l0_0)) else (impl_ApplyPlacement.j0 k l1 l2 true l0_0)) else (impl_ApplyPlacement.j0 k l1 l2 true l0_0))) = some (r1, r2) := h
 clear h
 have HC4 := Aside0.mk H
 clear H
 go_enter Try.func21, Try.ntmps21
 go_upto_region 1 with (first | ((with_reducible refine gate_dst (N := 3) rfl ?_); (try (refine gate_guard (by rfl) ?_; dsimp only)); refine box_event ?hg (N := 3) ?hd (cs := #[.slice A0_0 l0_0.length c0_0]) (t := 29) ?hr ?_; (case hd => rfl); (case hg => rfl); (case hr => first | (go_simp; done) | (go_simp; rfl)); intro gb309 hg w5 hbox hb; have n0_ := Aside0.mk (below_step (bel HB) hb); have n1_ := Aside0.mk (hbox); have n2_ := Aside0.mk ((by rw [hg]; exact (below_size (bel HB)) : w.heap.size ≤ gb309)); have n3_ := Aside0.mk ((by rw [hg]; exact (below_size (bel HB)) : w.heap.size ≤ gb309)); clear HB; have HB := n0_; have BK309 := n1_; have GW309 := n2_; have GE309 := n3_; clear n0_ n1_ n2_ n3_; clear hb hbox hg) | ((with_reducible refine gate_dst (N := 6) rfl ?_); (try (refine gate_guard (by rfl) ?_; dsimp only)); refine box_event ?hg (N := 6) ?hd (cs := #[.slice none 0 0]) (t := 29) ?hr ?_; (case hd => rfl); (case hg => rfl); (case hr => first | (go_simp; done) | (go_simp; rfl)); intro gb310 hg w6 hbox hb; have n0_ := Aside0.mk (blk_below (g := gb309) (o := .cells #[.slice A0_0 l0_0.length c0_0] 29 (0, 0)) (bkl BK309) hb); have n1_ := Aside0.mk (below_step (bel1 HB GE309) hb); have n2_ := Aside0.mk (hbox); have n3_ := Aside0.mk ((by rw [hg]; exact (below_size (bel1 HB GE309)) : w.heap.size ≤ gb310)); have n4_ := Aside0.mk ((by rw [hg]; exact (below_size (bel1 HB GE309)) : w.heap.size ≤ gb310)); have n5_ := Aside0.mk ((by rw [hg]; exact Nat.ne_of_lt (blk_lt (g := gb309) (o := .cells #[.slice A0_0 l0_0.length c0_0] 29 (0, 0)) (bkl BK309)) : gb309 ≠ gb310)); have n6_ := Aside0.mk ((by rw [hg]; exact Nat.ne_of_gt (blk_lt (g := gb309) (o := .cells #[.slice A0_0 l0_0.length c0_0] 29 (0, 0)) (bkl BK309)) : gb310 ≠ gb309)); clear BK309; clear HB; have BK309 := n0_; have HB := n1_; have BK310 := n2_; have GW310 := n3_; have GE310 := n4_; have NB309_310 := n5_; have NB310_309 := n6_; clear n0_ n1_ n2_ n3_ n4_ n5_ n6_; clear hb hbox hg))
 (try simp only [Act.put, List.setIfInBounds_toArray, List.set_cons_zero, List.set_cons_succ])
 go_cut [27] (fun v27 wc => ∃ (kq : Nat) (x27_3 : Bool), v27 = .bool x27_3 ∧ Aside0 (impl_ApplyPlacement.j0 kq l1 l2 x27_3 l0_0 = some (r1, r2)) ∧ Aside0 (kq ≤ k) ∧ Aside0 (wc.heap[gb309]? = some (.cells #[(.slice A0_0 l0_0.length c0_0)] 29 (0, 0))) ∧ Aside0 (wc.heap[gb310]? = some (.cells #[(.slice none 0 0)] 29 (0, 0))) ∧ Aside0 (Below w.heap.size w wc))
 case first =>
  have H := HC4.out
  clear HC4
  replace H := Option.bind_eq_some_iff.mp H
  obtain ⟨t311, A70, H⟩ := H
  replace H : (if t311 = true then (if (l2.length : Int) = (l1.length : Int) then ((impl_hasStack.f l0_0 l2).bind fun t312 => (impl_ApplyPlacement.j0 k l1 l2 (!t312) l0_0)) else (impl_ApplyPlacement.j0 k l1 l2 true l0_0)) else (impl_ApplyPlacement.j0 k l1 l2 true l0_0)) = some (r1, r2) := H
  have A7 := Aside0.mk A70
  clear A70
  by_cases c8 : t311 = true
  rotate_left
  ·replace c8 := Bool.eq_false_iff.mpr c8
   subst c8
   have H1 : (impl_ApplyPlacement.j0 k l1 l2 true l0_0) = some (r1, r2) := by rw [if_neg (show ¬ (false = true) by decide)] at H; exact H
   clear H
   have H := H1
   clear H1
   have H' := Aside0.mk H
   clear H
   have hnb19 := NB309_310.out
   have hnc19 := NB310_309.out
   have hcz20_0 : w6.cell? ⟨gb309, 0, none⟩ = some (.slice A0_0 l0_0.length c0_0) := (blk_cell BK309.out 0).trans rfl
   have hfz20_0 := blk_frozen BK309.out 0
   go_wp2_with (first | ((with_reducible refine gate_callee (f := 18) rfl ?_); refine goesL_ (some 13) rfl rfl Try.func18 (by kernel_rfl) rfl #[.agg #[.slice A0_0 l0_0.length c0_0], .slice A1 l1.length c1] rfl gmp ?_; (with_reducible refine (impl_areArrivals.calls k _ _ l0_0 _ _ l1 false _ ?side1 ?side2 ?side3 ?side4 A7.out).mono ?_); (case side1 => exact cdl (Kd.C_below HR0_0.out HB.out)); (case side2 => exact HC0_0.out); (case side3 => exact cdl (Kd.C_below HR1.out HB.out)); (case side4 => exact HC1.out); rintro e w21 ⟨rfl, hb⟩; refine ⟨_, rfl, ?_⟩; have n0_ := Aside0.mk (blk_below (g := gb309) (o := .cells #[.slice A0_0 l0_0.length c0_0] 29 (0, 0)) (bkl BK309) hb); have n1_ := Aside0.mk (blk_below (g := gb310) (o := .cells #[.slice none 0 0] 29 (0, 0)) (bkl BK310) hb); have n2_ := Aside0.mk (below_step (bel2 HB GE309 GE310) hb); clear BK309; clear BK310; clear HB; have BK309 := n0_; have BK310 := n1_; have HB := n2_; clear n0_ n1_ n2_; (try clear hb); (try clear hb2); (try clear hk); (try clear hi)))
   go_meet
   case rel => exact ⟨_, (true), (by first | rfl | (simp; done) | (simp [*]; done)), H', ⟨by first | omega | exact Nat.le_refl _⟩, ⟨bkl BK309⟩, ⟨bkl BK310⟩, ⟨bel2 HB GE309 GE310⟩⟩
  subst c8
  have H1 : (if (l2.length : Int) = (l1.length : Int) then ((impl_hasStack.f l0_0 l2).bind fun t312 => (impl_ApplyPlacement.j0 k l1 l2 (!t312) l0_0)) else (impl_ApplyPlacement.j0 k l1 l2 true l0_0)) = some (r1, r2) := by rw [if_pos rfl] at H; exact H
  clear H
  have H := H1
  clear H1
  by_cases c9 : (l2.length : Int) = (l1.length : Int)
  rotate_left
  ·rw [if_neg c9] at H
   have c9b0 : ((l2.length : Int) == (l1.length : Int)) = false := beq_eq_false_iff_ne.mpr c9
   have c9b1 : ((l2.length : Int) != (l1.length : Int)) = true := bne_iff_ne.mpr c9
   have c9b2 : (l2.length == l1.length) = false := by first | simpa using c9 | (simp at c9 ⊢; omega)
   (first | rw [c9b0] | (simp only [i64_w, i32_w]; rw [c9b0]) | skip)
   have H' := Aside0.mk H
   clear H
   have hnb16 := NB309_310.out
   have hnc16 := NB310_309.out
   have hcz17_0 : w6.cell? ⟨gb309, 0, none⟩ = some (.slice A0_0 l0_0.length c0_0) := (blk_cell BK309.out 0).trans rfl
   have hfz17_0 := blk_frozen BK309.out 0
   go_wp2_with (first | ((with_reducible refine gate_callee (f := 18) rfl ?_); refine goesL_ (some 13) rfl rfl Try.func18 (by kernel_rfl) rfl #[.agg #[.slice A0_0 l0_0.length c0_0], .slice A1 l1.length c1] rfl gmp ?_; (with_reducible refine (impl_areArrivals.calls k _ _ l0_0 _ _ l1 true _ ?side1 ?side2 ?side3 ?side4 A7.out).mono ?_); (case side1 => exact cdl (Kd.C_below HR0_0.out HB.out)); (case side2 => exact HC0_0.out); (case side3 => exact cdl (Kd.C_below HR1.out HB.out)); (case side4 => exact HC1.out); rintro e w18 ⟨rfl, hb⟩; refine ⟨_, rfl, ?_⟩; have n0_ := Aside0.mk (blk_below (g := gb309) (o := .cells #[.slice A0_0 l0_0.length c0_0] 29 (0, 0)) (bkl BK309) hb); have n1_ := Aside0.mk (blk_below (g := gb310) (o := .cells #[.slice none 0 0] 29 (0, 0)) (bkl BK310) hb); have n2_ := Aside0.mk (below_step (bel2 HB GE309 GE310) hb); clear BK309; clear BK310; clear HB; have BK309 := n0_; have BK310 := n1_; have HB := n2_; clear n0_ n1_ n2_; (try clear hb); (try clear hb2); (try clear hk); (try clear hi)))
   go_meet
   case rel => exact ⟨_, (true), (by first | rfl | (simp; done) | (simp [*]; done)), H', ⟨by first | omega | exact Nat.le_refl _⟩, ⟨bkl BK309⟩, ⟨bkl BK310⟩, ⟨bel2 HB GE309 GE310⟩⟩
  rw [if_pos c9] at H
  have c9b0 : ((l2.length : Int) == (l1.length : Int)) = true := beq_iff_eq.mpr c9
  have c9b1 : ((l2.length : Int) != (l1.length : Int)) = false := bne_eq_false_iff_eq.mpr c9
  have c9b2 : (l2.length == l1.length) = true := by first | simpa using c9 | (simp at c9 ⊢; omega)
  clear c9
  (first | rw [c9b0] | (simp only [i64_w, i32_w]; rw [c9b0]) | skip)
  replace H := Option.bind_eq_some_iff.mp H
  obtain ⟨t312, A100, H⟩ := H
  replace H : (impl_ApplyPlacement.j0 k l1 l2 (!t312) l0_0) = some (r1, r2) := H
  have A10 := Aside0.mk A100
  clear A100
  have H' := Aside0.mk H
  clear H
  have hnb11 := NB309_310.out
  have hnc11 := NB310_309.out
  have hcz12_0 : w6.cell? ⟨gb309, 0, none⟩ = some (.slice A0_0 l0_0.length c0_0) := (blk_cell BK309.out 0).trans rfl
  have hfz12_0 := blk_frozen BK309.out 0
  go_wp2_with (first | ((with_reducible refine gate_callee (f := 18) rfl ?_); refine goesL_ (some 13) rfl rfl Try.func18 (by kernel_rfl) rfl #[.agg #[.slice A0_0 l0_0.length c0_0], .slice A1 l1.length c1] rfl gmp ?_; (with_reducible refine (impl_areArrivals.calls k _ _ l0_0 _ _ l1 true _ ?side1 ?side2 ?side3 ?side4 A7.out).mono ?_); (case side1 => exact cdl (Kd.C_below HR0_0.out HB.out)); (case side2 => exact HC0_0.out); (case side3 => exact cdl (Kd.C_below HR1.out HB.out)); (case side4 => exact HC1.out); rintro e w13 ⟨rfl, hb⟩; refine ⟨_, rfl, ?_⟩; have n0_ := Aside0.mk (blk_below (g := gb309) (o := .cells #[.slice A0_0 l0_0.length c0_0] 29 (0, 0)) (bkl BK309) hb); have n1_ := Aside0.mk (blk_below (g := gb310) (o := .cells #[.slice none 0 0] 29 (0, 0)) (bkl BK310) hb); have n2_ := Aside0.mk (below_step (bel2 HB GE309 GE310) hb); clear BK309; clear BK310; clear HB; have BK309 := n0_; have BK310 := n1_; have HB := n2_; clear n0_ n1_ n2_; (try clear hb); (try clear hb2); (try clear hk); (try clear hi); have hcz14_0 : w13.cell? ⟨gb309, 0, none⟩ = some (.slice A0_0 l0_0.length c0_0) := (blk_cell BK309.out 0).trans rfl; have hfz14_0 := blk_frozen BK309.out 0) | (go_at_call 37; (with_reducible refine (impl_hasStack.calls _ _ l0_0 _ _ l2 t312 _ ?side1 ?side2 ?side3 ?side4 A10.out).mono ?_); (case side1 => exact cdl (Kd.C_below HR0_0.out HB.out)); (case side2 => exact HC0_0.out); (case side3 => exact cdl (Kd.C_below HR2.out HB.out)); (case side4 => exact HC2.out); rintro e w15 ⟨rfl, hb⟩; have n0_ := Aside0.mk (blk_below (g := gb309) (o := .cells #[.slice A0_0 l0_0.length c0_0] 29 (0, 0)) (bkl BK309) hb); have n1_ := Aside0.mk (blk_below (g := gb310) (o := .cells #[.slice none 0 0] 29 (0, 0)) (bkl BK310) hb); have n2_ := Aside0.mk (below_step (bel2 HB GE309 GE310) hb); clear BK309; clear BK310; clear HB; have BK309 := n0_; have BK310 := n1_; have HB := n2_; clear n0_ n1_ n2_; (try clear hb); (try clear hb2); (try clear hk); (try clear hi)))
  go_meet
  case rel => exact ⟨_, (!t312), (by first | rfl | (simp; done) | (simp [*]; done)), H', ⟨by first | omega | exact Nat.le_refl _⟩, ⟨bkl BK309⟩, ⟨bkl BK310⟩, ⟨bel2 HB GE309 GE310⟩⟩
 clear HC4
 try clear c1
 try clear c2
 try clear p2
 try clear c8
 try clear c9
 try clear c9b0
 try clear c9b1
 try clear c9b2
 try clear c11
 try clear c16
 try clear c18
 try clear c19
 try clear c21
 try clear hcz12_0
 try clear hcz14_0
 try clear hcz17_0
 try clear hcz20_0
 try clear hfz12_0
 try clear hfz14_0
 try clear hfz17_0
 try clear hfz20_0
 obtain ⟨kq, x27_3, rfl, HA, HJ3, BK309, BK310, HB⟩ := hcut
 cases kq with
 | zero => exact absurd HA.out (by simp [impl_ApplyPlacement.j0])
 | succ kj3 =>
  have H := HA.out
  clear HA
  simp only [impl_ApplyPlacement.j0] at H
  by_cases c22 : x27_3 = true
  ·subst c22
   have H1 : (some (([] : List (List Int)), false)) = some (r1, r2) := by rw [if_pos rfl] at H; exact H
   clear H
   have H := H1
   clear H1
   simp only [Option.some.injEq, Prod.mk.injEq] at H
   obtain ⟨rfl, rfl⟩ := H
   have hnb23 := NB310_309.out
   have hnc23 := NB309_310.out
   have hcz24_0 : wc.cell? ⟨gb310, 0, none⟩ = some (.slice none 0 0) := (blk_cell BK310.out 0).trans rfl
   have hfz24_0 := blk_frozen BK310.out 0
   go_wp2
   refine bodyPost_ret (results_ct rfl _ _ gb310 29 #[.slice none 0 0] (0, 0) _ rfl (by (with_reducible repeat (first | refine blk_drewN ?_ _ | refine blk_drew ?_ | refine blk_alloc ?_ _)); refine blk_put (cs := #[.slice none 0 0]) ?_ 0 _ rfl; (with_reducible repeat (first | refine blk_drewN ?_ _ | refine blk_drew ?_ | refine blk_alloc ?_ _)); exact BK310.out) Try.underlying29 rfl (by kernel_rfl)) rfl ?_
   exact ⟨_, by first | rfl | (simp [errW_none, errW_some] <;> rfl) | (simp [*, errW_none, errW_some] <;> rfl), by first | exact Kd.S_nil _ _ _ _ _ | exact Kd.N_nil _ _ _ _ _ | exact Kd.V_nil _ _ _ _ _ | exact Kd.Q_nil _ _ _ _ _ | exact Kd.R_nil _ _ _ _ _, bel2 HB GE309 GE310⟩
  replace c22 := Bool.eq_false_iff.mpr c22
  subst c22
  have H1 : ((impl_ownYard.f kj3 l0_0).bind fun t313 => (impl_ApplyPlacement.l0 kj3 l1 l2 (l2.length : Int) 0 t313)) = some (r1, r2) := by rw [if_neg (show ¬ (false = true) by decide)] at H; exact H
  clear H
  have H := H1
  clear H1
  replace H := Option.bind_eq_some_iff.mp H
  obtain ⟨t313, A250, H⟩ := H
  replace H : (impl_ApplyPlacement.l0 kj3 l1 l2 (l2.length : Int) 0 t313) = some (r1, r2) := H
  have A25 := Aside0.mk A250
  clear A250
  have H' := Aside0.mk H
  clear H
  have hnb26 := NB309_310.out
  have hnc26 := NB310_309.out
  have hcz27_0 : wc.cell? ⟨gb309, 0, none⟩ = some (.slice A0_0 l0_0.length c0_0) := (blk_cell BK309.out 0).trans rfl
  have hfz27_0 := blk_frozen BK309.out 0
  go_wp2_with (first | ((with_reducible refine gate_callee (f := 38) rfl ?_); refine goesL_ (some 30) rfl rfl Try.func38 (by kernel_rfl) rfl #[.agg #[.slice A0_0 l0_0.length c0_0]] rfl gmp ?_; (with_reducible refine (impl_ownYard.calls kj3 _ _ l0_0 t313 _ ?side1 ?side2 A25.out).mono ?_); (case side1 => exact cdl (Kd.C_below HR0_0.out HB.out)); (case side2 => exact HC0_0.out); rintro e w28 ⟨v314, rfl, ho0, hb⟩; refine ⟨_, rfl, ?_⟩; have n0_ := Aside0.mk (Kd.S_lower ho0 (below_size (bel2 HB GE309 GE310))); have n1_ := Aside0.mk (blk_below (g := gb309) (o := .cells #[.slice A0_0 l0_0.length c0_0] 29 (0, 0)) (bkl BK309) hb); have n2_ := Aside0.mk (blk_below (g := gb310) (o := .cells #[.slice none 0 0] 29 (0, 0)) (bkl BK310) hb); have n3_ := Aside0.mk (below_step (bel2 HB GE309 GE310) hb); clear BK309; clear BK310; clear HB; have HO315 := n0_; have BK309 := n1_; have BK310 := n2_; have HB := n3_; clear n0_ n1_ n2_ n3_; (try clear hb); (try clear hb2); (try clear hk); (try clear hi); (try clear ho0)) | ((with_reducible refine gate_dst (N := 8) rfl ?_); (try (refine gate_guard (by rfl) ?_; dsimp only)); refine box_event ?hg (N := 8) ?hd (cs := #[.slice none 0 0]) (t := 29) ?hr ?_; (case hd => rfl); (case hg => rfl); (case hr => first | (go_simp; done) | (go_simp; rfl)); intro gb316 hg w29 hbox hb; have n0_ := Aside0.mk (Kd.S_below (sdl HO315) hb); have n1_ := Aside0.mk (blk_below (g := gb309) (o := .cells #[.slice A0_0 l0_0.length c0_0] 29 (0, 0)) (bkl BK309) hb); have n2_ := Aside0.mk (blk_below (g := gb310) (o := .cells #[.slice none 0 0] 29 (0, 0)) (bkl BK310) hb); have n3_ := Aside0.mk (below_step (bel2 HB GE309 GE310) hb); have n4_ := Aside0.mk (hbox); have n5_ := Aside0.mk ((by rw [hg]; exact (below_size (bel2 HB GE309 GE310)) : w.heap.size ≤ gb316)); have n6_ := Aside0.mk ((by rw [hg]; exact (below_size (bel2 HB GE309 GE310)) : w.heap.size ≤ gb316)); have n7_ := Aside0.mk ((by rw [hg]; exact Nat.ne_of_lt (blk_lt (g := gb309) (o := .cells #[.slice A0_0 l0_0.length c0_0] 29 (0, 0)) (bkl BK309)) : gb309 ≠ gb316)); have n8_ := Aside0.mk ((by rw [hg]; exact Nat.ne_of_gt (blk_lt (g := gb309) (o := .cells #[.slice A0_0 l0_0.length c0_0] 29 (0, 0)) (bkl BK309)) : gb316 ≠ gb309)); have n9_ := Aside0.mk ((by rw [hg]; exact Nat.ne_of_lt (blk_lt (g := gb310) (o := .cells #[.slice none 0 0] 29 (0, 0)) (bkl BK310)) : gb310 ≠ gb316)); have n10_ := Aside0.mk ((by rw [hg]; exact Nat.ne_of_gt (blk_lt (g := gb310) (o := .cells #[.slice none 0 0] 29 (0, 0)) (bkl BK310)) : gb316 ≠ gb310)); clear HO315; clear BK309; clear BK310; clear HB; have HO315 := n0_; have BK309 := n1_; have BK310 := n2_; have HB := n3_; have BK316 := n4_; have GW316 := n5_; have GE316 := n6_; have NB309_316 := n7_; have NB316_309 := n8_; have NB310_316 := n9_; have NB316_310 := n10_; clear n0_ n1_ n2_ n3_ n4_ n5_ n6_ n7_ n8_ n9_ n10_; clear hb hbox hg; obtain ⟨Ao30, co30, eo30⟩ := Kd.S_slice HO315.out; subst eo30; have hnb31 := NB316_309.out; have hnc31 := NB309_316.out; have hnb32 := NB316_310.out; have hnc32 := NB310_316.out; have hcz33_0 : w29.cell? ⟨gb316, 0, none⟩ = some (.slice none 0 0) := (blk_cell BK316.out 0).trans rfl; have hfz33_0 := blk_frozen BK316.out 0))
  go_loopg [33] kj3 (fun kq v33 w' => ∃ (x33_2 : Int) (x317000_2 : List (List Int)) (u317000 : Value), v33 = .int .i64 x33_2 ∧ Aside0 (impl_ApplyPlacement.l0 kq l1 l2 (l2.length : Int) x33_2 x317000_2 = some (r1, r2)) ∧ Aside0 (kq ≤ kj3) ∧ Aside0 (Kd.S (Kd.slice 3 (Kd.int .i64)) 25 w' w.heap.size (fun _ => True) u317000 x317000_2) ∧ Aside0 (w'.heap[gb309]? = some (.cells #[(.slice A0_0 l0_0.length c0_0)] 29 (0, 0))) ∧ Aside0 (w'.heap[gb310]? = some (.cells #[(.slice none 0 0)] 29 (0, 0))) ∧ Aside0 (w'.heap[gb316]? = some (.cells #[u317000] 29 (0, 0))) ∧ Aside0 (Below w.heap.size w w'))
  case atStart => exact ⟨(0), (t313), (.slice Ao30 t313.length co30), (by first | rfl | (simp; done) | (simp [*]; done)), H', ⟨Nat.le_refl _⟩, ⟨by (with_reducible repeat (first | apply Kd.S_alloc | apply Kd.S_drewN | apply Kd.S_drew)); exact Kd.S_mono (Kd.S_far (p := ⟨gb316, 0, none⟩) (Kd.S_types HO315.out BK316.out (by decide)) (fun _ hk => hk.2) (.slice Ao30 t313.length co30)) (fun _ hk => trivial)⟩, ⟨by (with_reducible repeat (first | refine blk_drewN ?_ _ | refine blk_drew ?_ | refine blk_alloc ?_ _)); refine blk_far ?_ NB309_316.out _; (with_reducible repeat (first | refine blk_drewN ?_ _ | refine blk_drew ?_ | refine blk_alloc ?_ _)); exact BK309.out⟩, ⟨by (with_reducible repeat (first | refine blk_drewN ?_ _ | refine blk_drew ?_ | refine blk_alloc ?_ _)); refine blk_far ?_ NB310_316.out _; (with_reducible repeat (first | refine blk_drewN ?_ _ | refine blk_drew ?_ | refine blk_alloc ?_ _)); exact BK310.out⟩, ⟨by (with_reducible repeat (first | refine blk_drewN ?_ _ | refine blk_drew ?_ | refine blk_alloc ?_ _)); refine blk_put (cs := #[.slice none 0 0]) ?_ 0 _ rfl; (with_reducible repeat (first | refine blk_drewN ?_ _ | refine blk_drew ?_ | refine blk_alloc ?_ _)); exact BK316.out⟩, ⟨bel3 HB GE309 GE310 GE316⟩⟩
  clear H'
  try clear c1
  try clear c2
  try clear p2
  try clear c3
  try clear c8
  try clear c9
  try clear c9b0
  try clear c9b1
  try clear c9b2
  try clear c11
  try clear c16
  try clear c18
  try clear c19
  try clear c21
  try clear c22
  try clear c23
  try clear c26
  try clear c31
  try clear c32
  try clear hcz12_0
  try clear hcz14_0
  try clear hcz17_0
  try clear hcz20_0
  try clear hcz24_0
  try clear hcz27_0
  try clear hcz33_0
  try clear hfz12_0
  try clear hfz14_0
  try clear hfz17_0
  try clear hfz20_0
  try clear hfz24_0
  try clear hfz27_0
  try clear hfz33_0
  try clear p2
  obtain ⟨x33_2, x317000_2, u317000, rfl, HA, HK2, HO_317000, BK309, BK310, BK316, HB⟩ := hrel
  cases gk with
  | zero => exact absurd HA.out (by simp [impl_ApplyPlacement.l0])
  | succ k2 =>
   have H := HA.out
   clear HA
   simp only [impl_ApplyPlacement.l0] at H
   by_cases c34 : x33_2 < (l2.length : Int)
   rotate_left
   ·rw [if_neg c34] at H
    have c34b0 : decide (x33_2 < (l2.length : Int)) = false := decide_eq_false c34
    clear c34
    replace H := Option.bind_eq_some_iff.mp H
    obtain ⟨t324, A490, H⟩ := H
    replace H : (if t324 = true then (some (x317000_2, true)) else (some (([] : List (List Int)), false))) = some (r1, r2) := H
    have A49 := Aside0.mk A490
    clear A490
    by_cases c50 : t324 = true
    rotate_left
    ·replace c50 := Bool.eq_false_iff.mpr c50
     subst c50
     have H1 : (some (([] : List (List Int)), false)) = some (r1, r2) := by rw [if_neg (show ¬ (false = true) by decide)] at H; exact H
     clear H
     have H := H1
     clear H1
     simp only [Option.some.injEq, Prod.mk.injEq] at H
     obtain ⟨rfl, rfl⟩ := H
     have hnb59 := NB316_309.out
     have hnc59 := NB309_316.out
     have hnb60 := NB316_310.out
     have hnc60 := NB310_316.out
     have hcz61_0 : wr.cell? ⟨gb316, 0, none⟩ = some (u317000) := (blk_cell BK316.out 0).trans rfl
     have hfz61_0 := blk_frozen BK316.out 0
     obtain ⟨Ao62, co62, eo62⟩ := Kd.S_slice HO_317000.out
     subst eo62
     go_wp2_with (first | ((with_reducible refine gate_callee (f := 31) rfl ?_); refine goesL_ (some 55) rfl rfl Try.func31 (by kernel_rfl) rfl #[.agg #[.slice Ao62 x317000_2.length co62]] rfl gmp ?_; (with_reducible refine (impl_IsValidYard.calls _ _ x317000_2 false _ ?side1 ?side2 A49.out).mono ?_); (case side1 => exact cdl (Kd.S_reads' HO_317000.out).2.2); (case side2 => exact (Kd.S_reads' HO_317000.out).2.1); rintro e w63 ⟨rfl, hb⟩; refine ⟨_, rfl, ?_⟩; have n0_ := Aside0.mk (Kd.S_below (sdl HO_317000) hb); have n1_ := Aside0.mk (blk_below (g := gb309) (o := .cells #[.slice A0_0 l0_0.length c0_0] 29 (0, 0)) (bkl BK309) hb); have n2_ := Aside0.mk (blk_below (g := gb310) (o := .cells #[.slice none 0 0] 29 (0, 0)) (bkl BK310) hb); have n3_ := Aside0.mk (blk_below (g := gb316) (o := .cells #[.slice Ao62 x317000_2.length co62] 29 (0, 0)) (bkl BK316) hb); have n4_ := Aside0.mk (below_step (bel3 HB GE309 GE310 GE316) hb); clear HO_317000; clear BK309; clear BK310; clear BK316; clear HB; have HO_317000 := n0_; have BK309 := n1_; have BK310 := n2_; have BK316 := n3_; have HB := n4_; clear n0_ n1_ n2_ n3_ n4_; (try clear hb); (try clear hb2); (try clear hk); (try clear hi); have hnb64 := NB310_309.out; have hnc64 := NB309_310.out; have hcz65_0 : w63.cell? ⟨gb310, 0, none⟩ = some (.slice none 0 0) := (blk_cell BK310.out 0).trans rfl; have hfz65_0 := blk_frozen BK310.out 0))
     refine bodyPost_ret (results_ct rfl _ _ gb310 29 #[.slice none 0 0] (0, 0) _ rfl (by (with_reducible repeat (first | refine blk_drewN ?_ _ | refine blk_drew ?_ | refine blk_alloc ?_ _)); refine blk_put (cs := #[.slice none 0 0]) ?_ 0 _ rfl; (with_reducible repeat (first | refine blk_drewN ?_ _ | refine blk_drew ?_ | refine blk_alloc ?_ _)); exact BK310.out) Try.underlying29 rfl (by kernel_rfl)) rfl ?_
     exact ⟨_, by first | rfl | (simp [errW_none, errW_some] <;> rfl) | (simp [*, errW_none, errW_some] <;> rfl), by first | exact Kd.S_nil _ _ _ _ _ | exact Kd.N_nil _ _ _ _ _ | exact Kd.V_nil _ _ _ _ _ | exact Kd.Q_nil _ _ _ _ _ | exact Kd.R_nil _ _ _ _ _, bel3 HB GE309 GE310 GE316⟩
    subst c50
    have H1 : (some (x317000_2, true)) = some (r1, r2) := by rw [if_pos rfl] at H; exact H
    clear H
    have H := H1
    clear H1
    simp only [Option.some.injEq, Prod.mk.injEq] at H
    obtain ⟨rfl, rfl⟩ := H
    have hnb51 := NB316_309.out
    have hnc51 := NB309_316.out
    have hnb52 := NB316_310.out
    have hnc52 := NB310_316.out
    have hcz53_0 : wr.cell? ⟨gb316, 0, none⟩ = some (u317000) := (blk_cell BK316.out 0).trans rfl
    have hfz53_0 := blk_frozen BK316.out 0
    obtain ⟨Ao54, co54, eo54⟩ := Kd.S_slice HO_317000.out
    subst eo54
    go_wp2_with (first | ((with_reducible refine gate_callee (f := 31) rfl ?_); refine goesL_ (some 55) rfl rfl Try.func31 (by kernel_rfl) rfl #[.agg #[.slice Ao54 x317000_2.length co54]] rfl gmp ?_; (with_reducible refine (impl_IsValidYard.calls _ _ x317000_2 true _ ?side1 ?side2 A49.out).mono ?_); (case side1 => exact cdl (Kd.S_reads' HO_317000.out).2.2); (case side2 => exact (Kd.S_reads' HO_317000.out).2.1); rintro e w55 ⟨rfl, hb⟩; refine ⟨_, rfl, ?_⟩; have n0_ := Aside0.mk (Kd.S_below (sdl HO_317000) hb); have n1_ := Aside0.mk (blk_below (g := gb309) (o := .cells #[.slice A0_0 l0_0.length c0_0] 29 (0, 0)) (bkl BK309) hb); have n2_ := Aside0.mk (blk_below (g := gb310) (o := .cells #[.slice none 0 0] 29 (0, 0)) (bkl BK310) hb); have n3_ := Aside0.mk (blk_below (g := gb316) (o := .cells #[.slice Ao54 x317000_2.length co54] 29 (0, 0)) (bkl BK316) hb); have n4_ := Aside0.mk (below_step (bel3 HB GE309 GE310 GE316) hb); clear HO_317000; clear BK309; clear BK310; clear BK316; clear HB; have HO_317000 := n0_; have BK309 := n1_; have BK310 := n2_; have BK316 := n3_; have HB := n4_; clear n0_ n1_ n2_ n3_ n4_; (try clear hb); (try clear hb2); (try clear hk); (try clear hi); have hcz56_0 : w55.cell? ⟨gb316, 0, none⟩ = some (.slice Ao54 x317000_2.length co54) := (blk_cell BK316.out 0).trans rfl; have hfz56_0 := blk_frozen BK316.out 0; have hnb57 := NB310_309.out; have hnc57 := NB309_310.out; have hcz58_0 : w55.cell? ⟨gb310, 0, none⟩ = some (.slice none 0 0) := (blk_cell BK310.out 0).trans rfl; have hfz58_0 := blk_frozen BK310.out 0))
    refine bodyPost_ret (results_ct rfl _ _ gb310 29 #[.slice Ao54 x317000_2.length co54] (0, 0) _ rfl (by (with_reducible repeat (first | refine blk_drewN ?_ _ | refine blk_drew ?_ | refine blk_alloc ?_ _)); refine blk_put (cs := #[.slice none 0 0]) ?_ 0 _ rfl; (with_reducible repeat (first | refine blk_drewN ?_ _ | refine blk_drew ?_ | refine blk_alloc ?_ _)); exact BK310.out) Try.underlying29 rfl (by kernel_rfl)) rfl ?_
    exact ⟨_, by first | rfl | (simp [errW_none, errW_some] <;> rfl) | (simp [*, errW_none, errW_some] <;> rfl), by (with_reducible repeat (first | apply Kd.S_alloc | apply Kd.S_drewN | apply Kd.S_drew)); exact Kd.S_mono (Kd.S_far (p := ⟨gb310, 0, none⟩) (Kd.S_types HO_317000.out BK310.out (by decide)) (fun _ hk => hk.2) (.slice Ao54 x317000_2.length co54)) (fun _ hk => trivial), bel3 HB GE309 GE310 GE316⟩
   rw [if_pos c34] at H
   have c34b0 : decide (x33_2 < (l2.length : Int)) = true := decide_eq_true c34
   clear c34
   by_cases c35 : 0 ≤ x33_2
   rotate_left
   ·rw [if_neg c35] at H
    exact absurd H (by simp)
   rw [if_pos c35] at H
   have c35b0 : decide (0 ≤ x33_2) = true := decide_eq_true c35
   clear c35
   by_cases c36 : x33_2 < (l2.length : Int)
   rotate_left
   ·rw [if_neg c36] at H
    exact absurd H (by simp)
   rw [if_pos c36] at H
   have c36b0 : decide (x33_2 < (l2.length : Int)) = true := decide_eq_true c36
   clear c36
   by_cases c37 : 0 ≤ (rd l2 x33_2)
   rotate_left
   ·rw [if_neg c37] at H
    exact absurd H (by simp)
   rw [if_pos c37] at H
   have c37b0 : decide (0 ≤ (rd l2 x33_2)) = true := decide_eq_true c37
   clear c37
   by_cases c38 : (rd l2 x33_2) < (x317000_2.length : Int)
   rotate_left
   ·rw [if_neg c38] at H
    exact absurd H (by simp)
   rw [if_pos c38] at H
   have c38b0 : decide ((rd l2 x33_2) < (x317000_2.length : Int)) = true := decide_eq_true c38
   clear c38
   by_cases c39 : x33_2 < (l1.length : Int)
   rotate_left
   ·rw [if_neg c39] at H
    exact absurd H (by simp)
   rw [if_pos c39] at H
   have c39b0 : decide (x33_2 < (l1.length : Int)) = true := decide_eq_true c39
   clear c39
   by_cases c40 : (rd_L1 x317000_2 (rd l2 x33_2)).length < 17592186044416
   rotate_left
   ·rw [if_neg c40] at H
    exact absurd H (by simp)
   rw [if_pos c40] at H
   have LMc40 := Aside0.mk c40
   clear c40
   obtain ⟨y320, hy320⟩ : ∃ y_ : List Int, y_ = ((rd_L1 x317000_2 (rd l2 x33_2)) ++ [rd l1 x33_2]) := ⟨_, rfl⟩
   replace H : (impl_ApplyPlacement.l0 k2 l1 l2 (l2.length : Int) (wrap64 (x33_2 + 1)) (x317000_2.set ((rd l2 x33_2) : Int).toNat y320)) = some (r1, r2) := by first | (rw [hy320]; with_reducible exact H) | (have H2_ := (Option.bind_some _ _).symm.trans H; rw [hy320]; with_reducible exact H2_) | (have H2_ := (Option.bind_some _ _).symm.trans H; with_reducible exact H2_) | with_reducible exact H | (rw [hy320]; exact H) | exact H
   have Ny320 := Aside0.mk hy320
   clear hy320
   obtain ⟨y323, hy323⟩ : ∃ y_ : List (List Int), y_ = (x317000_2.set ((rd l2 x33_2) : Int).toNat y320) := ⟨_, rfl⟩
   replace H : (impl_ApplyPlacement.l0 k2 l1 l2 (l2.length : Int) (wrap64 (x33_2 + 1)) y323) = some (r1, r2) := by first | (rw [hy323]; with_reducible exact H) | (have H2_ := (Option.bind_some _ _).symm.trans H; rw [hy323]; with_reducible exact H2_) | (have H2_ := (Option.bind_some _ _).symm.trans H; with_reducible exact H2_) | with_reducible exact H | (rw [hy323]; exact H) | exact H
   have Ny323 := Aside0.mk hy323
   clear hy323
   have H' := Aside0.mk H
   clear H
   have p317 : 0 ≤ (x33_2 : Int) := oda
   have q317 : x33_2 < (l2.length : Int) := oda
   obtain ⟨ad317, e317, hx317_0⟩ := Kd.at_int HR2.out x33_2 p317 q317
   cases e317
   replace hx317_0 := cel HB hx317_0
   replace p317 := eq_true p317
   replace q317 := eq_true q317
   try go_wp2
   have n0_ := Aside0.mk (Kd.S_drew HO_317000.out)
   have n1_ := Aside0.mk (blk_drew BK309.out)
   have n2_ := Aside0.mk (blk_drew BK310.out)
   have n3_ := Aside0.mk (blk_drew BK316.out)
   have n4_ := Aside0.mk (below_drew1 HB.out)
   clear HO_317000 BK309 BK310 BK316 HB
   have HO_317000 := n0_
   have BK309 := n1_
   have BK310 := n2_
   have BK316 := n3_
   have HB := n4_
   clear n0_ n1_ n2_ n3_ n4_
   obtain ⟨Ao43, co43, eo43⟩ := Kd.S_slice HO_317000.out
   (first | subst eo43 | (injection eo43 with f1_ f2_ f3_; have f4_ := f1_.symm; have f5_ := f3_.symm; clear f1_ f2_ f3_; subst f4_; subst f5_))
   have p318 : 0 ≤ ((rd l2 x33_2) : Int) := oda
   have q318 : (rd l2 x33_2) < (x317000_2.length : Int) := oda
   obtain ⟨ad318, A318_0, c318_0, e318, hx318_0, hl318_0, hi318_0⟩ := at_L1 (Kd.S_reads' HO_317000.out).2.2 (rd l2 x33_2) p318 q318
   cases e318
   obtain ⟨ce318, hce318, hMe318, hcc318⟩ := Kd.S_get HO_317000.out [] (rd l2 x33_2) p318 (by first | exact q318 | exact oda | (have e_ := (Kd.S_reads' HO_317000.out).1; omega))
   obtain ⟨ve318_0, rfl, ge318_0⟩ := hMe318
   have hv318_0 := hcc318 0 _ rfl
   rw [Nat.add_zero, show ((Kd.slice 3 (Kd.int .i64))).sz = 1 from rfl, Nat.mul_one] at hv318_0
   replace hv318_0 := Option.some.inj (hv318_0.symm.trans hx318_0)
   rw [hv318_0] at ge318_0
   have HL318_0 := Aside0.mk (show Kd.R (Kd.int .i64) 3 _ _ _ _ (rd_L1 x317000_2 (rd l2 x33_2)) from ge318_0)
   clear hv318_0 ge318_0
   have HX318_0 := Aside0.mk hx318_0
   clear hcc318 hce318
   have HR318_0 := Aside0.mk hi318_0
   have HC318_0 := Aside0.mk hl318_0
   clear hi318_0 hl318_0
   replace p318 := eq_true p318
   replace q318 := eq_true q318
   have p319 : 0 ≤ (x33_2 : Int) := oda
   have q319 : x33_2 < (l1.length : Int) := oda
   obtain ⟨ad319, e319, hx319_0⟩ := Kd.at_int HR1.out x33_2 p319 q319
   have hw319_0 := hx319_0
   cases e319
   replace hx319_0 := cel HB hx319_0
   replace p319 := eq_true p319
   replace q319 := eq_true q319
   obtain ⟨go44, co44, eo44, gb44, gl44, cl44, HG44⟩ := Kd.S_form HO_317000.out (by have h_ : ((rd l2 x33_2) : Int) < ((x317000_2.length : Int) : Int) := oda; have h2_ : 0 ≤ ((rd l2 x33_2) : Int) := (oda); omega)
   (first | cases eo44 | (injection eo44 with ea_ en_ ec_; (first | subst ea_ | (injection ea_ with ea_; subst ea_)); subst ec_; clear en_))
   have GB44 := Aside0.mk gb44
   have GG44 := Aside0.mk HG44
   clear gb44 gl44 HG44
   (first | simp only [add_plain] at hx318_0 | skip)
   obtain ⟨oki44, ce44, hcl44, hM44, hcc44, _, _, hH44⟩ := Kd.S_elem HO_317000.out [] ((rd l2 x33_2) : Int) (oda) (by have h_ : ((rd l2 x33_2) : Int) < ((x317000_2.length : Int) : Int) := oda; first | exact h_ | (have e_ := (Kd.S_reads' HO_317000.out).1; omega) | simpa using h_)
   obtain ⟨ve44_0, rfl, ge44_0⟩ := hM44
   have hv44 := hcc44 0 _ rfl
   have hX44 := HX318_0.out
   (try simp only [add_plain] at hX44)
   (try simp only [Nat.add_zero] at hv44)
   (try rw [show ((Kd.slice 3 (Kd.int .i64))).sz = 1 from rfl, Nat.mul_one] at hv44)
   replace hv44 := Option.some.inj (hv44.symm.trans hX44)
   subst hv44
   clear hX44 hcc44 hcl44
   have UU44 := Aside0.mk (show Kd.R (Kd.int .i64) 3 _ w.heap.size oki44 (.slice A318_0 (rd_L1 x317000_2 (rd l2 x33_2)).length c318_0) (rd_L1 x317000_2 (rd l2 x33_2)) from ge44_0)
   have HH44 := Aside0.mk hH44
   have HN44 := Aside0.mk (Kd.S_reads' HO_317000.out).1
   clear hH44 ge44_0
   refine start_ (n := 16) (S := fun w' => w'.cell? ⟨gb316, 0, none⟩ = some (.slice (some ⟨go44, 0, none⟩) x317000_2.length co43) ∧ w'.cell? ⟨go44, ((rd l2 x33_2)).toNat, none⟩ = some (.slice A318_0 (rd_L1 x317000_2 (rd l2 x33_2)).length c318_0) ∧ w'.cell? (ad319.add (x33_2).toNat) = some (.int .i64 (rd l1 x33_2))) (ds := [15]) #[false, false, false, false, false, false, false, false, false, false, false, false, false, false, false, false] (by kernel_rfl) rfl rfl ⟨(blk_cell BK316.out 0).trans rfl, hx318_0, (cel HB hw319_0)⟩ (fun hHeld => ?_); refine with_tabW impl_ApplyPlacement.tab7 impl_ApplyPlacement.bits7 (fun HT_ HW_ => ?_)
   generalize wr.drew = w42 at HO_317000 BK309 BK310 BK316 HB GG44 HH44 HL318_0 HR318_0 HX318_0 UU44 hx318_0 hx319_0 hHeld ⊢
   refine pure_ (i := 0) (N := some 38) (v := ?_) (a' := ?_) #[true, false, false, false, false, false, false, false, false, false, false, false, false, false, false, false] rfl rfl (any_of HT_.out (by kernel_rfl)) (fun _ _ _ h => h) (Or.inl ⟨by rfl, ?_⟩) ?_ ?_
   rotate_left
   ·intro w'
    go_simp
    with_reducible rfl
   rotate_left
   ·simp only [putS]
    rfl
   refine pure_ (i := 2) (N := some 40) (v := ?_) (a' := ?_) #[true, false, true, false, false, false, false, false, false, false, false, false, false, false, false, false] rfl rfl (any_of HT_.out (by kernel_rfl)) (fun _ _ _ h => h) (Or.inl ⟨by rfl, ?_⟩) ?_ ?_
   rotate_left
   ·intro w'
    go_simp
    with_reducible rfl
   rotate_left
   ·simp only [putS]
    rfl
   refine pure_ (i := 3) (N := some 41) (v := ?_) (a' := ?_) #[true, false, true, true, false, false, false, false, false, false, false, false, false, false, false, false] rfl rfl (any_of HT_.out (by kernel_rfl)) (fun _ _ _ h => h) (Or.inl ⟨by rfl, ?_⟩) ?_ ?_
   rotate_left
   ·intro w'
    go_simp
    with_reducible rfl
   rotate_left
   ·simp only [putS]
    rfl
   refine pure_ (i := 5) (N := some 43) (v := ?_) (a' := ?_) #[true, false, true, true, false, true, false, false, false, false, false, false, false, false, false, false] rfl rfl (any_of HT_.out (by kernel_rfl)) (fun _ _ _ h => h) (Or.inl ⟨by rfl, ?_⟩) ?_ ?_
   rotate_left
   ·intro w'
    go_simp
    with_reducible rfl
   rotate_left
   ·simp only [putS]
    rfl
   refine pure_ (i := 8) (N := some 46) (v := ?_) (a' := ?_) #[true, false, true, true, false, true, false, false, true, false, false, false, false, false, false, false] rfl rfl (any_of HT_.out (by kernel_rfl)) (fun _ _ _ h => h) (Or.inl ⟨by rfl, ?_⟩) ?_ ?_
   rotate_left
   ·intro w'
    go_simp
    with_reducible rfl
   rotate_left
   ·simp only [putS]
    rfl
   refine pure_ (i := 9) (N := some 47) (v := ?_) (a' := ?_) #[true, false, true, true, false, true, false, false, true, true, false, false, false, false, false, false] rfl rfl (any_of HT_.out (by kernel_rfl)) (fun _ _ _ h => h) (Or.inl ⟨by rfl, ?_⟩) ?_ ?_
   rotate_left
   ·intro w'
    go_simp
    with_reducible rfl
   rotate_left
   ·simp only [putS]
    rfl
   refine pure_ (i := 10) (N := some 48) (v := ?_) (a' := ?_) #[true, false, true, true, false, true, false, false, true, true, true, false, false, false, false, false] rfl rfl (any_of HT_.out (by kernel_rfl)) (fun _ _ _ h => h) (Or.inl ⟨by rfl, ?_⟩) ?_ ?_
   rotate_left
   ·intro w'
    go_simp
    with_reducible rfl
   rotate_left
   ·simp only [putS]
    rfl
   refine take_ (i := 1) (N := some 39) (v := ?_) (a' := ?_) #[true, true, true, true, false, true, false, false, true, true, true, false, false, false, false, false] rfl rfl (take_ofW HT_.out HW_.out (by kernel_rfl)) (fun _ _ _ h => h) (Or.inl ⟨by rfl, ?_⟩) hHeld ?_ ?_
   rotate_left
   ·rintro w' ⟨s0, s1, s2⟩
    go_simp
    with_reducible rfl
   rotate_left
   ·simp only [putS]
    rfl
   refine take_ (i := 4) (N := some 42) (v := ?_) (a' := ?_) #[true, true, true, true, true, true, false, false, true, true, true, false, false, false, false, false] rfl rfl (take_ofW HT_.out HW_.out (by kernel_rfl)) (fun _ _ _ h => h) (Or.inl ⟨by rfl, ?_⟩) hHeld ?_ ?_
   rotate_left
   ·rintro w' ⟨s0, s1, s2⟩
    go_simp
    with_reducible rfl
   rotate_left
   ·simp only [putS]
    rfl
   refine pure_ (i := 6) (N := some 44) (v := ?_) (a' := ?_) #[true, true, true, true, true, true, true, false, true, true, true, false, false, false, false, false] rfl rfl (any_of HT_.out (by kernel_rfl)) (fun _ _ _ h => h) (Or.inl ⟨by rfl, ?_⟩) ?_ ?_
   rotate_left
   ·intro w'
    go_simp
    with_reducible rfl
   rotate_left
   ·simp only [putS]
    rfl
   refine take_ (i := 7) (N := some 45) (v := ?_) (a' := ?_) #[true, true, true, true, true, true, true, true, true, true, true, false, false, false, false, false] rfl rfl (take_ofW HT_.out HW_.out (by kernel_rfl)) (fun _ _ _ h => h) (Or.inl ⟨by rfl, ?_⟩) hHeld ?_ ?_
   rotate_left
   ·rintro w' ⟨s0, s1, s2⟩
    go_simp
    with_reducible rfl
   rotate_left
   ·simp only [putS]
    rfl
   refine take_ (i := 11) (N := some 49) (v := ?_) (a' := ?_) #[true, true, true, true, true, true, true, true, true, true, true, true, false, false, false, false] rfl rfl (take_ofW HT_.out HW_.out (by kernel_rfl)) (fun _ _ _ h => h) (Or.inl ⟨by rfl, ?_⟩) hHeld ?_ ?_
   rotate_left
   ·rintro w' ⟨s0, s1, s2⟩
    go_simp
    with_reducible rfl
   rotate_left
   ·simp only [putS]
    rfl
   refine one_ (i := 12) (N := some 50) #[true, true, true, true, true, true, true, true, true, true, true, true, true, false, false, false] rfl rfl (one_of HT_.out (by kernel_rfl)) (by decide) (fun K hK => ?_)
   refine value_ (w1 := ?_) (v := ?_) (by rfl) rfl ?_ ?_
   rotate_left 2
   ·go_simp
    constructor
    ·rfl
    rfl
   refine hK.out _ _ ⟨(blk_cell (blk_alloc BK316.out _) 0).trans rfl, (World.cell?_alloc_lt _ _ _ (World.block_lt_of_cell? _ _ (hHeld.2.1))).trans (hHeld.2.1), (World.cell?_alloc_lt _ _ _ (World.block_lt_of_cell? _ _ ((cel HB hw319_0)))).trans ((cel HB hw319_0))⟩ (fun hHeld => ?_)
   clear hK K
   refine norm_ (a' := ?_) ?_ ?_
   rotate_left
   ·show Act.put _ (some 50) _ = _
    simp only [putS]
    rfl
   refine one_ (i := 13) (N := some 51) #[true, true, true, true, true, true, true, true, true, true, true, true, true, true, false, false] rfl rfl (one_of HT_.out (by kernel_rfl)) (by decide) (fun K hK => ?_)
   refine Kd.R_append_step (Kd.int .i64) (w0 := w) w.heap.size (by rfl) (.tmp 45) (.tmp 50) 25 3 (.int .i64 0) 8 rfl Try.underlying25 info3 rfl (by decide) (by omega) (.slice A318_0 (rd_L1 x317000_2 (rd l2 x33_2)).length c318_0) (rd_L1 x317000_2 (rd l2 x33_2)) (rd l1 x33_2) [.int .i64 (rd l1 x33_2)] (fun k_ => oki44 k_ ∨ ((fun _ => True)) k_ ∧ w42.heap.size ≤ k_) (fun _ => False) rfl rfl ?aP (fun _ hk => hk.elim) ?aF ?aO ?aB ?aS ?aL ?_
   (case aP => exact rfl)
   (case aB => exact (bel3 HB GE309 GE310 GE316))
   (case aF => exact (fun k_ hk => .inr ⟨trivial, hk⟩))
   (case aO => exact (by (with_reducible repeat (first | apply Kd.R_alloc | apply Kd.R_drewN | apply Kd.R_drew)); exact Kd.R_mono UU44.out (fun _ hk => .inl hk)))
   (case aS => exact (below_size (bel3 HB GE309 GE310 GE316)))
   (case aL => have := LMc40.out; omega)
   intro v321 w45 ho hb hg hat
   (first | have HS1_ := cell_grown hg (hHeld.2.1) (by first | (rw [add_block]; exact (fun e_ => ((HL318_0.out.1 _ e_.symm).2) rfl)) | (show some (Addr.add _ _).block ≠ _; rw [add_block]; exact (fun e_ => ((HL318_0.out.1 _ e_.symm).2) rfl)) | exact (fun e_ => ((HL318_0.out.1 _ e_.symm).2) rfl)) | have HS1_ := cell_grown hg (cell_unalloc (hHeld.2.1) (by first | (rw [add_block]; exact Kd.S_lt HO_317000.out _ rfl) | (show (Addr.add _ _).block < _; rw [add_block]; exact Kd.S_lt HO_317000.out _ rfl) | exact Kd.S_lt HO_317000.out _ rfl)) (by first | (rw [add_block]; exact (fun e_ => ((HL318_0.out.1 _ e_.symm).2) rfl)) | (show some (Addr.add _ _).block ≠ _; rw [add_block]; exact (fun e_ => ((HL318_0.out.1 _ e_.symm).2) rfl)) | exact (fun e_ => ((HL318_0.out.1 _ e_.symm).2) rfl)))
   rw [← Ny320.out] at ho
   have n0_ := Aside0.mk (blk_grown (g := gb309) (o := .cells #[.slice A0_0 l0_0.length c0_0] 29 (0, 0)) (bkl BK309) hg (Kd.R_ne HL318_0.out BK309.out (by decide)))
   have n1_ := Aside0.mk (blk_grown (g := gb310) (o := .cells #[.slice none 0 0] 29 (0, 0)) (bkl BK310) hg (Kd.R_ne HL318_0.out BK310.out (by decide)))
   have n2_ := Aside0.mk (blk_grown (g := gb316) (o := .cells #[.slice (some ⟨go44, 0, none⟩) x317000_2.length co43] 29 (0, 0)) (bkl BK316) hg (Kd.R_ne HL318_0.out BK316.out (by decide)))
   have n3_ := Aside0.mk (hb)
   have n4_ := Aside0.mk (Kd.H_grown (Kd.H_widen (by repeat (first | exact HH44.out | refine Kd.H_alloc ?_ _ | refine Kd.H_drewN ?_ _ | refine Kd.H_drew ?_))) hg (fun k_ e_ => .inl (UU44.out.1 k_ e_)))
   have n5_ := Aside0.mk (ho)
   clear BK309 BK310 BK316 HB HH44 HO_317000 UU44 HL318_0
   have BK309 := n0_
   have BK310 := n1_
   have BK316 := n2_
   have HB := n3_
   have HH44 := n4_
   have HO322 := n5_
   clear n0_ n1_ n2_ n3_ n4_ n5_ ho hb hg hat
   have p41 : 0 ≤ ((rd l2 x33_2) : Int) := oda
   have q41 : ((rd l2 x33_2) : Int) < ((x317000_2.length : Int) : Int) := oda
   replace p41 := eq_true p41
   replace q41 := eq_true q41
   obtain ⟨Ao48, co48, eo48⟩ := Kd.R_slice HO322.out
   (first | subst eo48 | (injection eo48 with f1_ f2_ f3_; have f4_ := f1_.symm; have f5_ := f3_.symm; clear f1_ f2_ f3_; subst f4_; subst f5_))
   obtain ⟨_, _, hraw46, _, _, hcc46, _⟩ := Kd.H_raw HH44.out (oda) (by have h_ : ((rd l2 x33_2) : Int) < ((x317000_2.length : Int) : Int) := oda; first | exact h_ | (have e_ := (HN44.out); omega) | simpa using h_)
   obtain ⟨_, hfr46⟩ := Kd.H_at HH44.out (oda) (by have h_ : ((rd l2 x33_2) : Int) < ((x317000_2.length : Int) : Int) := oda; first | exact h_ | (have e_ := (HN44.out); omega) | simpa using h_)
   have hx46_0 := hcc46 0 _ rfl
   have hf46_0 := hfr46 0
   (try simp only [Nat.add_zero] at hx46_0 hf46_0)
   (try rw [show ((Kd.slice 3 (Kd.int .i64))).sz = 1 from rfl, Nat.mul_one] at hx46_0)
   (try rw [show ((Kd.slice 3 (Kd.int .i64))).sz = 1 from rfl, Nat.mul_one] at hf46_0)
   have HP46 := Kd.S_seg0 HH44.out (oda) (by have h_ : ((rd l2 x33_2) : Int) < ((x317000_2.length : Int) : Int) := oda; first | exact h_ | (have e_ := (HN44.out); omega) | simpa using h_) (seg := [.slice Ao48 y320.length co48]) (j := 0) (show 1 ≤ 1 from by decide) (x' := y320) (Kd.M_row HO322.out) (fun _ hk => hk)
   (try simp only [show ((Kd.slice 3 (Kd.int .i64))).sz = 1 from rfl, Nat.mul_one, Nat.add_zero] at HP46)
   clear hcc46 hfr46
   have HNB309_go44 := Aside0.mk (show gb309 ≠ go44 from by have h_ := Kd.R_ne hraw46 BK309.out (by decide); intro e_; exact h_ (by rw [e_]; rfl))
   have HNB310_go44 := Aside0.mk (show gb310 ≠ go44 from by have h_ := Kd.R_ne hraw46 BK310.out (by decide); intro e_; exact h_ (by rw [e_]; rfl))
   have HNB316_go44 := Aside0.mk (show gb316 ≠ go44 from by have h_ := Kd.R_ne hraw46 BK316.out (by decide); intro e_; exact h_ (by rw [e_]; rfl))
   have HS46 := HP46.1
   rw [← Ny323.out] at HS46
   have HQ46 := Aside0.mk HS46
   obtain ⟨_, hgg46⟩ := Kd.R_typed hraw46 go44 rfl
   have GG46_ := Aside0.mk hgg46
   clear HP46 HS46 hgg46
   refine hK.out _ _ ⟨(blk_cell BK316.out 0).trans rfl, HS1_, (cel HB hw319_0)⟩ (fun hHeld => ?_)
   clear hK K
   refine norm_ (a' := ?_) ?_ ?_
   rotate_left
   ·show Act.put _ (some 51) _ = _
    simp only [putS]
    rfl
   refine pure_ (i := 14) (N := some 52) (v := ?_) (a' := ?_) #[true, true, true, true, true, true, true, true, true, true, true, true, true, true, true, false] rfl rfl (any_of HT_.out (by kernel_rfl)) (fun _ _ _ h => h) (Or.inl ⟨by rfl, ?_⟩) ?_ ?_
   rotate_left
   ·intro w'
    go_simp
    with_reducible rfl
   rotate_left
   ·simp only [putS]
    rfl
   refine last_ (i := 15) (N := none) #[true, true, true, true, true, true, true, true, true, true, true, true, true, true, true, true] rfl rfl (one_of HT_.out (by kernel_rfl)) (by decide) (fun K hK => ?_)
   refine skip_ (w1 := ?_) (by rfl) rfl ?_ ?_
   rotate_left
   ·go_simp
    rfl
   refine hK.out _ _ ?_
   clear hK K
   refine done_ (done_of HT_.out (by kernel_rfl)) ?_
   try go_wp2
   go_roundg k2
   case measure => have := HJ3.out; have := HK2.out; omega
   case rel => exact ⟨(wrap64 (x33_2 + 1)), (y323), (.slice (some ⟨go44, 0, none⟩) x317000_2.length co43), (by first | rfl | (simp; done) | (simp [*]; done)), H', ⟨by have := HJ3.out; have := HK2.out; omega⟩, ⟨sdl HQ46⟩, ⟨by (with_reducible repeat (first | refine blk_drewN ?_ _ | refine blk_drew ?_ | refine blk_alloc ?_ _)); refine blk_far ?_ HNB309_go44.out _; (with_reducible repeat (first | refine blk_drewN ?_ _ | refine blk_drew ?_ | refine blk_alloc ?_ _)); exact BK309.out⟩, ⟨by (with_reducible repeat (first | refine blk_drewN ?_ _ | refine blk_drew ?_ | refine blk_alloc ?_ _)); refine blk_far ?_ HNB310_go44.out _; (with_reducible repeat (first | refine blk_drewN ?_ _ | refine blk_drew ?_ | refine blk_alloc ?_ _)); exact BK310.out⟩, ⟨by (with_reducible repeat (first | refine blk_drewN ?_ _ | refine blk_drew ?_ | refine blk_alloc ?_ _)); refine blk_far ?_ HNB316_go44.out _; (with_reducible repeat (first | refine blk_drewN ?_ _ | refine blk_drew ?_ | refine blk_alloc ?_ _)); exact BK316.out⟩, ⟨by repeat (first | (with_reducible first | exact HB.out | apply below_alloc | apply pw_below_drewN | apply below_drew1 | refine below_set ?_ GB44.out | refine below_set ?_ GE309.out | refine below_set ?_ GE310.out | refine below_set ?_ GE316.out) | exact HB.out)⟩⟩
end Go.Proofs.Ytmmkpaoibekmjaa.P
