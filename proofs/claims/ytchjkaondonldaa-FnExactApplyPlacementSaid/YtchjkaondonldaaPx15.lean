-- Written by a program of this session over the translation (a variant of the printer, see wip/gen); Lean checks it.
import Derived.Test.YtchjkaondonldaaPx0
import Derived.Test.YtchjkaondonldaaPx11
import Derived.Test.YtchjkaondonldaaPx12
import Derived.Test.YtchjkaondonldaaPx14
namespace Go.Proofs.Ytchjkaondonldaa.P
open Go.RowKit Go.Proofs.YtchjkaondonldaaW.PrintWords Go.Proofs.YtchjkaondonldaaW.PrintLast Go.Proofs.YtchjkaondonldaaW.PrintMore
attribute [local go_sem] Go.Proofs.Ytchjkaondonldaa.V.isSome_setCell max2_int min2_int max_two min_two max_three min_three max_four min_four   -- for this text's walks alone
set_option linter.unusedVariables false
set_option linter.unusedSimpArgs false

/-! ### spec_ApplyPlacement: function 35 -/
mutual
def spec_ApplyPlacement.j0 : Nat → List Int → List Int → Bool → List (List Int) → Option ((List (List Int)) × Bool)
 | 0, _, _, _, _ => none
 | k + 1, x1, x2, x20, x223000 => if x20 = true then (some (([] : List (List Int)), false)) else ((spec_l5Own.f k x223000).bind fun t225 => (spec_ApplyPlacement.l0 k x1 x2 0 x223000 t225))
def spec_ApplyPlacement.l0 : Nat → List Int → List Int → Int → List (List Int) → List (List Int) → Option ((List (List Int)) × Bool)
 | 0, _, _, _, _, _ => none
 | k + 1, x1, x2, x9, x223000, x229000 => if x9 < (x1.length : Int) then (if 0 ≤ x9 then (if x9 < (x2.length : Int) then ((spec_l1In.f (rd x2 x9) 0 (wrap64 ((x223000.length : Int) - 1))).bind fun t230 => (if t230 = true then (if 0 ≤ (rd x2 x9) then (if (rd x2 x9) < (x229000.length : Int) then (if (rd_L1 x229000 (rd x2 x9)).length < 17592186044416 then (spec_ApplyPlacement.l0 k x1 x2 (wrap64 (x9 + 1)) x223000 (x229000.set ((rd x2 x9) : Int).toNat ((rd_L1 x229000 (rd x2 x9)) ++ [rd x1 x9]))) else (none)) else (none)) else (none)) else (some (([] : List (List Int)), false)))) else (none)) else (none)) else ((spec_l5Good.f k x229000).bind fun t239 => (if t239 = true then (some (x229000, true)) else (some (([] : List (List Int)), false))))
end
def spec_ApplyPlacement.f (k : Nat) (l0_0 : List (List Int)) (l1 : List Int) (l2 : List Int) : Option ((List (List Int)) × Bool) := (spec_l8Asked.f k l0_0 l1).bind fun t224 => (if t224 = true then (spec_ApplyPlacement.j0 k l1 l2 ((l2.length : Int) != (l1.length : Int)) l0_0) else (spec_ApplyPlacement.j0 k l1 l2 true l0_0))
theorem spec_ApplyPlacement.mono_l : ∀ k, (∀ y0 y1 y2 y3, LeO (spec_ApplyPlacement.j0 k y0 y1 y2 y3) (spec_ApplyPlacement.j0 (k + 1) y0 y1 y2 y3)) ∧ (∀ y0 y1 y2 y3 y4, LeO (spec_ApplyPlacement.l0 k y0 y1 y2 y3 y4) (spec_ApplyPlacement.l0 (k + 1) y0 y1 y2 y3 y4))
 | 0 => ⟨fun _ _ _ _ r h => by simp [spec_ApplyPlacement.j0] at h, fun _ _ _ _ _ r h => by simp [spec_ApplyPlacement.l0] at h⟩
 | k + 1 => by
  obtain ⟨ih0, ih1⟩ := spec_ApplyPlacement.mono_l k
  refine ⟨?_, ?_⟩
  ·intro y0 y1 y2 y3
   unfold spec_ApplyPlacement.j0
   repeat' first
   | (with_reducible exact ih0 _ _ _ _)
   | (with_reducible exact ih1 _ _ _ _ _)
   | (with_reducible exact spec_l5Good.mono _ _)
   | (with_reducible exact spec_l5Own.mono _ _)
   | (with_reducible exact spec_l8Asked.mono _ _ _)
   | (with_reducible exact LeO.refl _)
   | (with_reducible exact LeO.none _)
   | (with_reducible refine LeO.ite ?_ ?_)
   | (with_reducible refine LeO.bind ?_ (fun _ => ?_))
   | exact ih0 _ _ _ _
   | exact ih1 _ _ _ _ _
   | exact spec_l5Good.mono _ _
   | exact spec_l5Own.mono _ _
   | exact spec_l8Asked.mono _ _ _
   | exact LeO.none _
   | refine LeO.ite ?_ ?_
   | refine LeO.bind ?_ (fun _ => ?_)
  ·intro y0 y1 y2 y3 y4
   unfold spec_ApplyPlacement.l0
   repeat' first
   | (with_reducible exact ih0 _ _ _ _)
   | (with_reducible exact ih1 _ _ _ _ _)
   | (with_reducible exact spec_l5Good.mono _ _)
   | (with_reducible exact spec_l5Own.mono _ _)
   | (with_reducible exact spec_l8Asked.mono _ _ _)
   | (with_reducible exact LeO.refl _)
   | (with_reducible exact LeO.none _)
   | (with_reducible refine LeO.ite ?_ ?_)
   | (with_reducible refine LeO.bind ?_ (fun _ => ?_))
   | exact ih0 _ _ _ _
   | exact ih1 _ _ _ _ _
   | exact spec_l5Good.mono _ _
   | exact spec_l5Own.mono _ _
   | exact spec_l8Asked.mono _ _ _
   | exact LeO.none _
   | refine LeO.ite ?_ ?_
   | refine LeO.bind ?_ (fun _ => ?_)
theorem spec_ApplyPlacement.mono : ∀ a0 a1 a2 k, LeO (spec_ApplyPlacement.f k a0 a1 a2) (spec_ApplyPlacement.f (k + 1) a0 a1 a2) := by
 intro a0 a1 a2 k
 obtain ⟨ih0, ih1⟩ := spec_ApplyPlacement.mono_l k
 unfold spec_ApplyPlacement.f
 repeat' first
   | (with_reducible exact ih0 _ _ _ _)
   | (with_reducible exact ih1 _ _ _ _ _)
   | (with_reducible exact spec_l5Good.mono _ _)
   | (with_reducible exact spec_l5Own.mono _ _)
   | (with_reducible exact spec_l8Asked.mono _ _ _)
   | (with_reducible exact LeO.refl _)
   | (with_reducible exact LeO.none _)
   | (with_reducible refine LeO.ite ?_ ?_)
   | (with_reducible refine LeO.bind ?_ (fun _ => ?_))
   | exact ih0 _ _ _ _
   | exact ih1 _ _ _ _ _
   | exact spec_l5Good.mono _ _
   | exact spec_l5Own.mono _ _
   | exact spec_l8Asked.mono _ _ _
   | exact LeO.none _
   | refine LeO.ite ?_ ?_
   | refine LeO.bind ?_ (fun _ => ?_)
def spec_ApplyPlacement.T7 : Bool × List (List Nat × List Nat) := (true, [([], []), ([], []), ([0, 1], [0, 1]), ([2], [2]), ([], []), ([4], [4]), ([5], [5]), ([6], [6]), ([3, 7], [3, 7]), ([8], [8])])
def spec_ApplyPlacement.B7 : List Nat := [0, 0, 3, 7, 0, 16, 48, 112, 255, 511]
theorem spec_ApplyPlacement.tab7 : rtab .any (opsOf Try.f35 7) = spec_ApplyPlacement.T7 := by kernel_rfl
theorem spec_ApplyPlacement.bits7 : waitsOk spec_ApplyPlacement.T7.2 spec_ApplyPlacement.B7 = true := by kernel_rfl
def spec_ApplyPlacement.T9 : Bool × List (List Nat × List Nat) := (true, [([], []), ([0], [0]), ([], []), ([], []), ([2, 3], [2, 3]), ([4], [4]), ([], []), ([6], [6]), ([], []), ([], []), ([8, 9], [8, 9]), ([10], [10]), ([7, 11], [7, 11]), ([12], [12]), ([], []), ([], []), ([14, 15], [14, 15]), ([16], [16]), ([17], [17]), ([13, 18], [13, 18]), ([1, 5, 0, 1, 2, 3, 4, 5, 6, 7, 8, 9, 10, 11, 12, 13, 14, 15, 16, 17, 18, 19], [1, 5]), ([20, 19, 19, 0, 1, 2, 3, 4, 5, 6, 7, 8, 9, 10, 11, 12, 13, 14, 15, 16, 17, 18, 19], [19, 20])])
def spec_ApplyPlacement.B9 : List Nat := [0, 1, 0, 0, 12, 28, 0, 64, 0, 0, 768, 1792, 4032, 8128, 0, 0, 49152, 114688, 245760, 524224, 1048575, 2097151]
theorem spec_ApplyPlacement.tab9 : rtab .any (opsOf Try.f35 9) = spec_ApplyPlacement.T9 := by kernel_rfl
theorem spec_ApplyPlacement.bits9 : waitsOk spec_ApplyPlacement.T9.2 spec_ApplyPlacement.B9 = true := by kernel_rfl
set_option maxHeartbeats 8000000 in
set_option maxRecDepth 100000 in
theorem spec_ApplyPlacement.calls (k : Nat) (A0_0 : Option Addr) (c0_0 : Nat) (l0_0 : List (List Int)) (A1 : Option Addr) (c1 : Nat) (l1 : List Int) (A2 : Option Addr) (c2 : Nat) (l2 : List Int) (r1 : List (List Int)) (r2 : Bool) (w : World) (hr0_0 : Kd.C (Kd.slice 3 (Kd.int .i64)) w A0_0 l0_0.length l0_0) (hc0_0 : l0_0.length ≤ c0_0) (hr1 : Kd.C (Kd.int .i64) w A1 l1.length l1) (hc1 : l1.length ≤ c1) (hr2 : Kd.C (Kd.int .i64) w A2 l2.length l2) (hc2 : l2.length ≤ c2) (h : spec_ApplyPlacement.f k l0_0 l1 l2 = some (r1, r2)) :
  Calls Try.prog 35 #[.agg #[.slice A0_0 l0_0.length c0_0], .slice A1 l1.length c1, .slice A2 l2.length c2] w fun e w' => ∃ v0_ : Value, e = .returned (.tuple #[.agg #[v0_], .bool r2]) ∧ Kd.S (Kd.slice 3 (Kd.int .i64)) 35 w' w.heap.size (fun _ => True) v0_ r1 ∧ Below w.heap.size w w' := by
 have hu28 := Try.underlying28
 have HR0_0 := Aside0.mk hr0_0
 have HC0_0 := Aside0.mk hc0_0
 clear hr0_0 hc0_0
 have HR1 := Aside0.mk hr1
 have HC1 := Aside0.mk hc1
 clear hr1 hc1
 have HR2 := Aside0.mk hr2
 have HC2 := Aside0.mk hc2
 clear hr2 hc2
 have HB := Aside0.mk (Below.refl w.heap.size w)
 have H : ((spec_l8Asked.f k l0_0 l1).bind fun t224 => (if t224 = true then (spec_ApplyPlacement.j0 k l1 l2 ((l2.length : Int) != (l1.length : Int)) l0_0) else (spec_ApplyPlacement.j0 k l1 l2 true l0_0))) = some (r1, r2) := h
 clear h
 have HC4 := Aside0.mk H
 clear H
 go_enter Try.func35, Try.ntmps35
 go_upto_region 1 with (first | ((with_reducible refine gate_dst (N := 3) rfl ?_); (try (refine gate_guard (by rfl) ?_; dsimp only)); refine box_event ?hg (N := 3) ?hd (cs := #[.slice A0_0 l0_0.length c0_0]) (t := 28) ?hr ?_; (case hd => rfl); (case hg => rfl); (case hr => first | (go_simp; done) | (go_simp; rfl)); intro gb222 hg w5 hbox hb; have n0_ := Aside0.mk (below_step (bel HB) hb); have n1_ := Aside0.mk (hbox); have n2_ := Aside0.mk ((by rw [hg]; exact (below_size (bel HB)) : w.heap.size ≤ gb222)); have n3_ := Aside0.mk ((by rw [hg]; exact (below_size (bel HB)) : w.heap.size ≤ gb222)); clear HB; have HB := n0_; have BK222 := n1_; have GW222 := n2_; have GE222 := n3_; clear n0_ n1_ n2_ n3_; clear hb hbox hg) | ((with_reducible refine gate_dst (N := 6) rfl ?_); (try (refine gate_guard (by rfl) ?_; dsimp only)); refine box_event ?hg (N := 6) ?hd (cs := #[.slice none 0 0]) (t := 28) ?hr ?_; (case hd => rfl); (case hg => rfl); (case hr => first | (go_simp; done) | (go_simp; rfl)); intro gb223 hg w6 hbox hb; have n0_ := Aside0.mk (blk_below (g := gb222) (o := .cells #[.slice A0_0 l0_0.length c0_0] 28 (0, 0)) (bkl BK222) hb); have n1_ := Aside0.mk (below_step (bel1 HB GE222) hb); have n2_ := Aside0.mk (hbox); have n3_ := Aside0.mk ((by rw [hg]; exact (below_size (bel1 HB GE222)) : w.heap.size ≤ gb223)); have n4_ := Aside0.mk ((by rw [hg]; exact (below_size (bel1 HB GE222)) : w.heap.size ≤ gb223)); have n5_ := Aside0.mk ((by rw [hg]; exact Nat.ne_of_lt (blk_lt (g := gb222) (o := .cells #[.slice A0_0 l0_0.length c0_0] 28 (0, 0)) (bkl BK222)) : gb222 ≠ gb223)); have n6_ := Aside0.mk ((by rw [hg]; exact Nat.ne_of_gt (blk_lt (g := gb222) (o := .cells #[.slice A0_0 l0_0.length c0_0] 28 (0, 0)) (bkl BK222)) : gb223 ≠ gb222)); clear BK222; clear HB; have BK222 := n0_; have HB := n1_; have BK223 := n2_; have GW223 := n3_; have GE223 := n4_; have NB222_223 := n5_; have NB223_222 := n6_; clear n0_ n1_ n2_ n3_ n4_ n5_ n6_; clear hb hbox hg))
 (try simp only [Act.put, List.setIfInBounds_toArray, List.set_cons_zero, List.set_cons_succ])
 go_cut [20] (fun v20 wc => ∃ (kq : Nat) (x20_3 : Bool), v20 = .bool x20_3 ∧ Aside0 (spec_ApplyPlacement.j0 kq l1 l2 x20_3 l0_0 = some (r1, r2)) ∧ Aside0 (kq ≤ k) ∧ Aside0 (wc.heap[gb222]? = some (.cells #[(.slice A0_0 l0_0.length c0_0)] 28 (0, 0))) ∧ Aside0 (wc.heap[gb223]? = some (.cells #[(.slice none 0 0)] 28 (0, 0))) ∧ Aside0 (Below w.heap.size w wc))
 case first =>
  have H := HC4.out
  clear HC4
  replace H := Option.bind_eq_some_iff.mp H
  obtain ⟨t224, A70, H⟩ := H
  replace H : (if t224 = true then (spec_ApplyPlacement.j0 k l1 l2 ((l2.length : Int) != (l1.length : Int)) l0_0) else (spec_ApplyPlacement.j0 k l1 l2 true l0_0)) = some (r1, r2) := H
  have A7 := Aside0.mk A70
  clear A70
  by_cases c8 : t224 = true
  ·subst c8
   have H1 : (spec_ApplyPlacement.j0 k l1 l2 ((l2.length : Int) != (l1.length : Int)) l0_0) = some (r1, r2) := by rw [if_pos rfl] at H; exact H
   clear H
   have H := H1
   clear H1
   have H' := Aside0.mk H
   clear H
   have hnb9 := NB222_223.out
   have hnc9 := NB223_222.out
   have hcz10_0 : w6.cell? ⟨gb222, 0, none⟩ = some (.slice A0_0 l0_0.length c0_0) := (blk_cell BK222.out 0).trans rfl
   have hfz10_0 := blk_frozen BK222.out 0
   go_wp2_with (first | ((with_reducible refine gate_callee (f := 66) rfl ?_); refine goesL_ (some 12) rfl rfl Try.func66 (by kernel_rfl) rfl #[.agg #[.slice A0_0 l0_0.length c0_0], .slice A1 l1.length c1] rfl gmp ?_; (with_reducible refine (spec_l8Asked.calls k _ _ l0_0 _ _ l1 true _ ?side1 ?side2 ?side3 ?side4 A7.out).mono ?_); (case side1 => exact cdl (Kd.C_below HR0_0.out HB.out)); (case side2 => exact HC0_0.out); (case side3 => exact cdl (Kd.C_below HR1.out HB.out)); (case side4 => exact HC1.out); rintro e w11 ⟨rfl, hb⟩; refine ⟨_, rfl, ?_⟩; have n0_ := Aside0.mk (blk_below (g := gb222) (o := .cells #[.slice A0_0 l0_0.length c0_0] 28 (0, 0)) (bkl BK222) hb); have n1_ := Aside0.mk (blk_below (g := gb223) (o := .cells #[.slice none 0 0] 28 (0, 0)) (bkl BK223) hb); have n2_ := Aside0.mk (below_step (bel2 HB GE222 GE223) hb); clear BK222; clear BK223; clear HB; have BK222 := n0_; have BK223 := n1_; have HB := n2_; clear n0_ n1_ n2_; (try clear hb); (try clear hb2); (try clear hk); (try clear hi)))
   go_meet
   case rel => exact ⟨_, (((l2.length : Int) != (l1.length : Int))), (by first | rfl | (simp; done) | (simp [*]; done)), H', ⟨by first | omega | exact Nat.le_refl _⟩, ⟨bkl BK222⟩, ⟨bkl BK223⟩, ⟨bel2 HB GE222 GE223⟩⟩
  ·replace c8 := Bool.eq_false_iff.mpr c8
   subst c8
   have H1 : (spec_ApplyPlacement.j0 k l1 l2 true l0_0) = some (r1, r2) := by rw [if_neg (show ¬ (false = true) by decide)] at H; exact H
   clear H
   have H := H1
   clear H1
   have H' := Aside0.mk H
   clear H
   have hnb12 := NB222_223.out
   have hnc12 := NB223_222.out
   have hcz13_0 : w6.cell? ⟨gb222, 0, none⟩ = some (.slice A0_0 l0_0.length c0_0) := (blk_cell BK222.out 0).trans rfl
   have hfz13_0 := blk_frozen BK222.out 0
   go_wp2_with (first | ((with_reducible refine gate_callee (f := 66) rfl ?_); refine goesL_ (some 12) rfl rfl Try.func66 (by kernel_rfl) rfl #[.agg #[.slice A0_0 l0_0.length c0_0], .slice A1 l1.length c1] rfl gmp ?_; (with_reducible refine (spec_l8Asked.calls k _ _ l0_0 _ _ l1 false _ ?side1 ?side2 ?side3 ?side4 A7.out).mono ?_); (case side1 => exact cdl (Kd.C_below HR0_0.out HB.out)); (case side2 => exact HC0_0.out); (case side3 => exact cdl (Kd.C_below HR1.out HB.out)); (case side4 => exact HC1.out); rintro e w14 ⟨rfl, hb⟩; refine ⟨_, rfl, ?_⟩; have n0_ := Aside0.mk (blk_below (g := gb222) (o := .cells #[.slice A0_0 l0_0.length c0_0] 28 (0, 0)) (bkl BK222) hb); have n1_ := Aside0.mk (blk_below (g := gb223) (o := .cells #[.slice none 0 0] 28 (0, 0)) (bkl BK223) hb); have n2_ := Aside0.mk (below_step (bel2 HB GE222 GE223) hb); clear BK222; clear BK223; clear HB; have BK222 := n0_; have BK223 := n1_; have HB := n2_; clear n0_ n1_ n2_; (try clear hb); (try clear hb2); (try clear hk); (try clear hi)))
   go_meet
   case rel => exact ⟨_, (true), (by first | rfl | (simp; done) | (simp [*]; done)), H', ⟨by first | omega | exact Nat.le_refl _⟩, ⟨bkl BK222⟩, ⟨bkl BK223⟩, ⟨bel2 HB GE222 GE223⟩⟩
 case rest =>
  clear HC4
  try clear c1
  try clear c2
  try clear p2
  try clear c3
  try clear c6
  try clear c8
  try clear c9
  try clear c12
  try clear hcz10_0
  try clear hcz13_0
  try clear hfz10_0
  try clear hfz13_0
  obtain ⟨kq, x20_3, rfl, HA, HJ3, BK222, BK223, HB⟩ := hcut
  cases kq with
  | zero => exact absurd HA.out (by simp [spec_ApplyPlacement.j0])
  | succ kj3 =>
   have H := HA.out
   clear HA
   simp only [spec_ApplyPlacement.j0] at H
   by_cases c15 : x20_3 = true
   ·subst c15
    have H1 : (some (([] : List (List Int)), false)) = some (r1, r2) := by rw [if_pos rfl] at H; exact H
    clear H
    have H := H1
    clear H1
    simp only [Option.some.injEq, Prod.mk.injEq] at H
    obtain ⟨rfl, rfl⟩ := H
    have hnb16 := NB223_222.out
    have hnc16 := NB222_223.out
    have hcz17_0 : wc.cell? ⟨gb223, 0, none⟩ = some (.slice none 0 0) := (blk_cell BK223.out 0).trans rfl
    have hfz17_0 := blk_frozen BK223.out 0
    go_wp2
    refine bodyPost_ret (results_ct rfl _ _ gb223 28 #[.slice none 0 0] (0, 0) _ rfl (by (with_reducible repeat (first | refine blk_drewN ?_ _ | refine blk_drew ?_ | refine blk_alloc ?_ _)); refine blk_put (cs := #[.slice none 0 0]) ?_ 0 _ rfl; (with_reducible repeat (first | refine blk_drewN ?_ _ | refine blk_drew ?_ | refine blk_alloc ?_ _)); exact BK223.out) Try.underlying28 rfl (by kernel_rfl)) rfl ?_
    exact ⟨_, by first | rfl | (simp [errW_none, errW_some] <;> rfl) | (simp [*, errW_none, errW_some] <;> rfl), by first | exact Kd.S_nil _ _ _ _ _ | exact Kd.N_nil _ _ _ _ _ | exact Kd.V_nil _ _ _ _ _ | exact Kd.Q_nil _ _ _ _ _ | exact Kd.R_nil _ _ _ _ _, bel2 HB GE222 GE223⟩
   ·replace c15 := Bool.eq_false_iff.mpr c15
    subst c15
    have H1 : ((spec_l5Own.f kj3 l0_0).bind fun t225 => (spec_ApplyPlacement.l0 kj3 l1 l2 0 l0_0 t225)) = some (r1, r2) := by rw [if_neg (show ¬ (false = true) by decide)] at H; exact H
    clear H
    have H := H1
    clear H1
    replace H := Option.bind_eq_some_iff.mp H
    obtain ⟨t225, A180, H⟩ := H
    replace H : (spec_ApplyPlacement.l0 kj3 l1 l2 0 l0_0 t225) = some (r1, r2) := H
    have A18 := Aside0.mk A180
    clear A180
    have H' := Aside0.mk H
    clear H
    have hnb19 := NB222_223.out
    have hnc19 := NB223_222.out
    have hcz20_0 : wc.cell? ⟨gb222, 0, none⟩ = some (.slice A0_0 l0_0.length c0_0) := (blk_cell BK222.out 0).trans rfl
    have hfz20_0 := blk_frozen BK222.out 0
    go_wp2_with (first | ((with_reducible refine gate_callee (f := 70) rfl ?_); refine goesL_ (some 23) rfl rfl Try.func70 (by kernel_rfl) rfl #[.agg #[.slice A0_0 l0_0.length c0_0]] rfl gmp ?_; (with_reducible refine (spec_l5Own.calls kj3 _ _ l0_0 t225 _ ?side1 ?side2 A18.out).mono ?_); (case side1 => exact cdl (Kd.C_below HR0_0.out HB.out)); (case side2 => exact HC0_0.out); rintro e w21 ⟨v226, rfl, ho0, hb⟩; refine ⟨_, rfl, ?_⟩; have n0_ := Aside0.mk (Kd.S_lower ho0 (below_size (bel2 HB GE222 GE223))); have n1_ := Aside0.mk (blk_below (g := gb222) (o := .cells #[.slice A0_0 l0_0.length c0_0] 28 (0, 0)) (bkl BK222) hb); have n2_ := Aside0.mk (blk_below (g := gb223) (o := .cells #[.slice none 0 0] 28 (0, 0)) (bkl BK223) hb); have n3_ := Aside0.mk (below_step (bel2 HB GE222 GE223) hb); clear BK222; clear BK223; clear HB; have HO227 := n0_; have BK222 := n1_; have BK223 := n2_; have HB := n3_; clear n0_ n1_ n2_ n3_; (try clear hb); (try clear hb2); (try clear hk); (try clear hi); (try clear ho0)) | ((with_reducible refine gate_dst (N := 8) rfl ?_); (try (refine gate_guard (by rfl) ?_; dsimp only)); refine box_event ?hg (N := 8) ?hd (cs := #[.slice none 0 0]) (t := 28) ?hr ?_; (case hd => rfl); (case hg => rfl); (case hr => first | (go_simp; done) | (go_simp; rfl)); intro gb228 hg w22 hbox hb; have n0_ := Aside0.mk (Kd.S_below (sdl HO227) hb); have n1_ := Aside0.mk (blk_below (g := gb222) (o := .cells #[.slice A0_0 l0_0.length c0_0] 28 (0, 0)) (bkl BK222) hb); have n2_ := Aside0.mk (blk_below (g := gb223) (o := .cells #[.slice none 0 0] 28 (0, 0)) (bkl BK223) hb); have n3_ := Aside0.mk (below_step (bel2 HB GE222 GE223) hb); have n4_ := Aside0.mk (hbox); have n5_ := Aside0.mk ((by rw [hg]; exact (below_size (bel2 HB GE222 GE223)) : w.heap.size ≤ gb228)); have n6_ := Aside0.mk ((by rw [hg]; exact (below_size (bel2 HB GE222 GE223)) : w.heap.size ≤ gb228)); have n7_ := Aside0.mk ((by rw [hg]; exact Nat.ne_of_lt (blk_lt (g := gb222) (o := .cells #[.slice A0_0 l0_0.length c0_0] 28 (0, 0)) (bkl BK222)) : gb222 ≠ gb228)); have n8_ := Aside0.mk ((by rw [hg]; exact Nat.ne_of_gt (blk_lt (g := gb222) (o := .cells #[.slice A0_0 l0_0.length c0_0] 28 (0, 0)) (bkl BK222)) : gb228 ≠ gb222)); have n9_ := Aside0.mk ((by rw [hg]; exact Nat.ne_of_lt (blk_lt (g := gb223) (o := .cells #[.slice none 0 0] 28 (0, 0)) (bkl BK223)) : gb223 ≠ gb228)); have n10_ := Aside0.mk ((by rw [hg]; exact Nat.ne_of_gt (blk_lt (g := gb223) (o := .cells #[.slice none 0 0] 28 (0, 0)) (bkl BK223)) : gb228 ≠ gb223)); clear HO227; clear BK222; clear BK223; clear HB; have HO227 := n0_; have BK222 := n1_; have BK223 := n2_; have HB := n3_; have BK228 := n4_; have GW228 := n5_; have GE228 := n6_; have NB222_228 := n7_; have NB228_222 := n8_; have NB223_228 := n9_; have NB228_223 := n10_; clear n0_ n1_ n2_ n3_ n4_ n5_ n6_ n7_ n8_ n9_ n10_; clear hb hbox hg; obtain ⟨Ao23, co23, eo23⟩ := Kd.S_slice HO227.out; subst eo23; have hnb24 := NB228_222.out; have hnc24 := NB222_228.out; have hnb25 := NB228_223.out; have hnc25 := NB223_228.out; have hcz26_0 : w22.cell? ⟨gb228, 0, none⟩ = some (.slice none 0 0) := (blk_cell BK228.out 0).trans rfl; have hfz26_0 := blk_frozen BK228.out 0))
    go_loopg [9] kj3 (fun kq v9 w' => ∃ (x9_2 : Int) (x229000_2 : List (List Int)) (u229000 : Value), v9 = .int .i64 x9_2 ∧ Aside0 (spec_ApplyPlacement.l0 kq l1 l2 x9_2 l0_0 x229000_2 = some (r1, r2)) ∧ Aside0 (kq ≤ kj3) ∧ Aside0 (Kd.S (Kd.slice 3 (Kd.int .i64)) 35 w' w.heap.size (fun _ => True) u229000 x229000_2) ∧ Aside0 (w'.heap[gb222]? = some (.cells #[(.slice A0_0 l0_0.length c0_0)] 28 (0, 0))) ∧ Aside0 (w'.heap[gb223]? = some (.cells #[(.slice none 0 0)] 28 (0, 0))) ∧ Aside0 (w'.heap[gb228]? = some (.cells #[u229000] 28 (0, 0))) ∧ Aside0 (Below w.heap.size w w'))
    case atStart => exact ⟨(0), (t225), (.slice Ao23 t225.length co23), (by first | rfl | (simp; done) | (simp [*]; done)), H', ⟨Nat.le_refl _⟩, ⟨by (with_reducible repeat (first | apply Kd.S_alloc | apply Kd.S_drewN | apply Kd.S_drew)); exact Kd.S_mono (Kd.S_far (p := ⟨gb228, 0, none⟩) (Kd.S_types HO227.out BK228.out (by decide)) (fun _ hk => hk.2) (.slice Ao23 t225.length co23)) (fun _ hk => trivial)⟩, ⟨by (with_reducible repeat (first | refine blk_drewN ?_ _ | refine blk_drew ?_ | refine blk_alloc ?_ _)); refine blk_far ?_ NB222_228.out _; (with_reducible repeat (first | refine blk_drewN ?_ _ | refine blk_drew ?_ | refine blk_alloc ?_ _)); exact BK222.out⟩, ⟨by (with_reducible repeat (first | refine blk_drewN ?_ _ | refine blk_drew ?_ | refine blk_alloc ?_ _)); refine blk_far ?_ NB223_228.out _; (with_reducible repeat (first | refine blk_drewN ?_ _ | refine blk_drew ?_ | refine blk_alloc ?_ _)); exact BK223.out⟩, ⟨by (with_reducible repeat (first | refine blk_drewN ?_ _ | refine blk_drew ?_ | refine blk_alloc ?_ _)); refine blk_put (cs := #[.slice none 0 0]) ?_ 0 _ rfl; (with_reducible repeat (first | refine blk_drewN ?_ _ | refine blk_drew ?_ | refine blk_alloc ?_ _)); exact BK228.out⟩, ⟨bel3 HB GE222 GE223 GE228⟩⟩
    case round =>
     clear H'
     try clear c1
     try clear c2
     try clear p2
     try clear c3
     try clear c6
     try clear c7
     try clear c8
     try clear c9
     try clear c12
     try clear c15
     try clear c16
     try clear c19
     try clear c24
     try clear c25
     try clear hcz10_0
     try clear hcz13_0
     try clear hcz17_0
     try clear hcz20_0
     try clear hcz26_0
     try clear hfz10_0
     try clear hfz13_0
     try clear hfz17_0
     try clear hfz20_0
     try clear hfz26_0
     try clear p2
     obtain ⟨x9_2, x229000_2, u229000, rfl, HA, HK2, HO_229000, BK222, BK223, BK228, HB⟩ := hrel
     cases gk with
     | zero => exact absurd HA.out (by simp [spec_ApplyPlacement.l0])
     | succ k2 =>
      have H := HA.out
      clear HA
      simp only [spec_ApplyPlacement.l0] at H
      by_cases c27 : x9_2 < (l1.length : Int)
      ·rw [if_pos c27] at H
       have c27b0 : decide (x9_2 < (l1.length : Int)) = true := decide_eq_true c27
       clear c27
       by_cases c28 : 0 ≤ x9_2
       ·rw [if_pos c28] at H
        have c28b0 : decide (0 ≤ x9_2) = true := decide_eq_true c28
        clear c28
        by_cases c29 : x9_2 < (l2.length : Int)
        ·rw [if_pos c29] at H
         have c29b0 : decide (x9_2 < (l2.length : Int)) = true := decide_eq_true c29
         clear c29
         replace H := Option.bind_eq_some_iff.mp H
         obtain ⟨t230, A300, H⟩ := H
         replace H : (if t230 = true then (if 0 ≤ (rd l2 x9_2) then (if (rd l2 x9_2) < (x229000_2.length : Int) then (if (rd_L1 x229000_2 (rd l2 x9_2)).length < 17592186044416 then (spec_ApplyPlacement.l0 k2 l1 l2 (wrap64 (x9_2 + 1)) l0_0 (x229000_2.set ((rd l2 x9_2) : Int).toNat ((rd_L1 x229000_2 (rd l2 x9_2)) ++ [rd l1 x9_2]))) else (none)) else (none)) else (none)) else (some (([] : List (List Int)), false))) = some (r1, r2) := H
         have A30 := Aside0.mk A300
         clear A300
         by_cases c31 : t230 = true
         ·subst c31
          have H1 : (if 0 ≤ (rd l2 x9_2) then (if (rd l2 x9_2) < (x229000_2.length : Int) then (if (rd_L1 x229000_2 (rd l2 x9_2)).length < 17592186044416 then (spec_ApplyPlacement.l0 k2 l1 l2 (wrap64 (x9_2 + 1)) l0_0 (x229000_2.set ((rd l2 x9_2) : Int).toNat ((rd_L1 x229000_2 (rd l2 x9_2)) ++ [rd l1 x9_2]))) else (none)) else (none)) else (none)) = some (r1, r2) := by rw [if_pos rfl] at H; exact H
          clear H
          have H := H1
          clear H1
          by_cases c32 : 0 ≤ (rd l2 x9_2)
          ·rw [if_pos c32] at H
           have c32b0 : decide (0 ≤ (rd l2 x9_2)) = true := decide_eq_true c32
           clear c32
           by_cases c33 : (rd l2 x9_2) < (x229000_2.length : Int)
           ·rw [if_pos c33] at H
            have c33b0 : decide ((rd l2 x9_2) < (x229000_2.length : Int)) = true := decide_eq_true c33
            clear c33
            by_cases c34 : (rd_L1 x229000_2 (rd l2 x9_2)).length < 17592186044416
            ·rw [if_pos c34] at H
             have LMc34 := Aside0.mk c34
             clear c34
             obtain ⟨y235, hy235⟩ : ∃ y_ : List Int, y_ = ((rd_L1 x229000_2 (rd l2 x9_2)) ++ [rd l1 x9_2]) := ⟨_, rfl⟩
             replace H : (spec_ApplyPlacement.l0 k2 l1 l2 (wrap64 (x9_2 + 1)) l0_0 (x229000_2.set ((rd l2 x9_2) : Int).toNat y235)) = some (r1, r2) := by first | (rw [hy235]; with_reducible exact H) | (have H2_ := (Option.bind_some _ _).symm.trans H; rw [hy235]; with_reducible exact H2_) | (have H2_ := (Option.bind_some _ _).symm.trans H; with_reducible exact H2_) | with_reducible exact H | (rw [hy235]; exact H) | exact H
             have Ny235 := Aside0.mk hy235
             clear hy235
             obtain ⟨y238, hy238⟩ : ∃ y_ : List (List Int), y_ = (x229000_2.set ((rd l2 x9_2) : Int).toNat y235) := ⟨_, rfl⟩
             replace H : (spec_ApplyPlacement.l0 k2 l1 l2 (wrap64 (x9_2 + 1)) l0_0 y238) = some (r1, r2) := by first | (rw [hy238]; with_reducible exact H) | (have H2_ := (Option.bind_some _ _).symm.trans H; rw [hy238]; with_reducible exact H2_) | (have H2_ := (Option.bind_some _ _).symm.trans H; with_reducible exact H2_) | with_reducible exact H | (rw [hy238]; exact H) | exact H
             have Ny238 := Aside0.mk hy238
             clear hy238
             have H' := Aside0.mk H
             clear H
             try go_wp2
             have n0_ := Aside0.mk (Kd.S_drew HO_229000.out)
             have n1_ := Aside0.mk (blk_drew BK222.out)
             have n2_ := Aside0.mk (blk_drew BK223.out)
             have n3_ := Aside0.mk (blk_drew BK228.out)
             have n4_ := Aside0.mk (below_drew1 HB.out)
             clear HO_229000
             clear BK222
             clear BK223
             clear BK228
             clear HB
             have HO_229000 := n0_
             have BK222 := n1_
             have BK223 := n2_
             have BK228 := n3_
             have HB := n4_
             clear n0_ n1_ n2_ n3_ n4_
             have p229 : 0 ≤ (x9_2 : Int) := oda
             have q229 : x9_2 < (l2.length : Int) := oda
             obtain ⟨ad229, e229, hx229_0⟩ := Kd.at_int HR2.out x9_2 p229 q229
             have hw229_0 := hx229_0
             cases e229
             replace hx229_0 := cel HB hx229_0
             replace p229 := eq_true p229
             replace q229 := eq_true q229
             refine start_ (n := 10) (S := fun w' => w'.cell? ⟨gb222, 0, none⟩ = some (.slice A0_0 l0_0.length c0_0) ∧ w'.cell? (ad229.add (x9_2).toNat) = some (.int .i64 (rd l2 x9_2))) (ds := []) #[false, false, false, false, false, false, false, false, false, false] (by kernel_rfl) rfl rfl ⟨(blk_cell BK222.out 0).trans rfl, (cel HB hw229_0 :)⟩ (fun hHeld => ?_); refine with_tabW spec_ApplyPlacement.tab7 spec_ApplyPlacement.bits7 (fun HT_ HW_ => ?_)
             generalize wr.drew = w36 at HO_229000 BK222 BK223 BK228 HB hx229_0 hHeld ⊢
             refine pure_ (i := 0) (N := some 30) (v := ?_) (a' := ?_) #[true, false, false, false, false, false, false, false, false, false] rfl rfl (any_of HT_.out (by kernel_rfl)) (fun _ _ _ h => h) (Or.inl ⟨by rfl, ?_⟩) ?_ ?_
             rotate_left
             ·intro w'
              go_simp
              with_reducible rfl
             rotate_left
             ·simp only [Act.put, List.setIfInBounds_toArray, List.set_cons_zero, List.set_cons_succ, i64_w, i32_w]
              rfl
             refine pure_ (i := 1) (N := some 31) (v := ?_) (a' := ?_) #[true, true, false, false, false, false, false, false, false, false] rfl rfl (any_of HT_.out (by kernel_rfl)) (fun _ _ _ h => h) (Or.inl ⟨by rfl, ?_⟩) ?_ ?_
             rotate_left
             ·intro w'
              go_simp
              with_reducible rfl
             rotate_left
             ·simp only [Act.put, List.setIfInBounds_toArray, List.set_cons_zero, List.set_cons_succ, i64_w, i32_w]
              rfl
             refine pure_ (i := 2) (N := some 32) (v := ?_) (a' := ?_) #[true, true, true, false, false, false, false, false, false, false] rfl rfl (any_of HT_.out (by kernel_rfl)) (fun _ _ _ h => h) (Or.inl ⟨by rfl, ?_⟩) ?_ ?_
             rotate_left
             ·intro w'
              go_simp
              with_reducible rfl
             rotate_left
             ·simp only [Act.put, List.setIfInBounds_toArray, List.set_cons_zero, List.set_cons_succ, i64_w, i32_w]
              rfl
             refine pure_ (i := 4) (N := some 34) (v := ?_) (a' := ?_) #[true, true, true, false, true, false, false, false, false, false] rfl rfl (any_of HT_.out (by kernel_rfl)) (fun _ _ _ h => h) (Or.inl ⟨by rfl, ?_⟩) ?_ ?_
             rotate_left
             ·intro w'
              go_simp
              with_reducible rfl
             rotate_left
             ·simp only [Act.put, List.setIfInBounds_toArray, List.set_cons_zero, List.set_cons_succ, i64_w, i32_w]
              rfl
             refine take_ (i := 3) (N := some 33) (v := ?_) (a' := ?_) #[true, true, true, true, true, false, false, false, false, false] rfl rfl (take_ofW HT_.out HW_.out (by kernel_rfl)) (fun _ _ _ h => h) (Or.inl ⟨by rfl, ?_⟩) hHeld ?_ ?_
             rotate_left
             ·rintro w' ⟨s0, s1⟩
              go_simp
              with_reducible rfl
             rotate_left
             ·simp only [Act.put, List.setIfInBounds_toArray, List.set_cons_zero, List.set_cons_succ, i64_w, i32_w]
              rfl
             refine take_ (i := 5) (N := some 35) (v := ?_) (a' := ?_) #[true, true, true, true, true, true, false, false, false, false] rfl rfl (take_ofW HT_.out HW_.out (by kernel_rfl)) (fun _ _ _ h => h) (Or.inl ⟨by rfl, ?_⟩) hHeld ?_ ?_
             rotate_left
             ·rintro w' ⟨s0, s1⟩
              go_simp
              with_reducible rfl
             rotate_left
             ·simp only [Act.put, List.setIfInBounds_toArray, List.set_cons_zero, List.set_cons_succ, i64_w, i32_w]
              rfl
             refine pure_ (i := 6) (N := some 36) (v := ?_) (a' := ?_) #[true, true, true, true, true, true, true, false, false, false] rfl rfl (any_of HT_.out (by kernel_rfl)) (fun _ _ _ h => h) (Or.inl ⟨by rfl, ?_⟩) ?_ ?_
             rotate_left
             ·intro w'
              go_simp
              with_reducible rfl
             rotate_left
             ·simp only [Act.put, List.setIfInBounds_toArray, List.set_cons_zero, List.set_cons_succ, i64_w, i32_w]
              rfl
             refine pure_ (i := 7) (N := some 37) (v := ?_) (a' := ?_) #[true, true, true, true, true, true, true, true, false, false] rfl rfl (any_of HT_.out (by kernel_rfl)) (fun _ _ _ h => h) (Or.inl ⟨by rfl, ?_⟩) ?_ ?_
             rotate_left
             ·intro w'
              go_simp
              with_reducible rfl
             rotate_left
             ·simp only [Act.put, List.setIfInBounds_toArray, List.set_cons_zero, List.set_cons_succ, i64_w, i32_w]
              rfl
             refine one_ (i := 8) (N := some 38) #[true, true, true, true, true, true, true, true, true, false] rfl rfl (one_of HT_.out (by kernel_rfl)) (by decide) (fun K hK => ?_)
             refine goes_ Try.func73 (by kernel_rfl) rfl #[.int .i64 (rd l2 x9_2), .int .i64 0, .int .i64 (wrap64 ((l0_0.length : Int) - 1))] (by rfl) rfl rfl gmp ?_
             with_reducible refine (spec_l1In.calls (rd l2 x9_2) 0 (wrap64 ((l0_0.length : Int) - 1)) true _ A30.out).mono ?_
             rintro e w' ⟨rfl, ⟨nd, rfl⟩⟩
             refine ⟨_, rfl, ?_⟩
             refine hK.out _ _ ⟨(blk_cell BK222.out 0).trans rfl, (cel HB hw229_0 :)⟩ (fun hHeld => ?_)
             clear hK K
             refine norm_ (a' := ?_) ?_ ?_
             rotate_left
             ·show Act.put _ (some 38) _ = _
              simp only [Act.put, List.setIfInBounds_toArray, List.set_cons_zero, List.set_cons_succ, i64_w, i32_w]
              rfl
             refine pure_ (i := 9) (N := some 39) (v := ?_) (a' := ?_) #[true, true, true, true, true, true, true, true, true, true] rfl rfl (any_of HT_.out (by kernel_rfl)) (fun _ _ _ h => h) (Or.inl ⟨by rfl, ?_⟩) ?_ ?_
             rotate_left
             ·intro w'
              go_simp
              with_reducible rfl
             rotate_left
             ·simp only [Act.put, List.setIfInBounds_toArray, List.set_cons_zero, List.set_cons_succ, i64_w, i32_w]
              rfl
             refine done_ (done_of HT_.out (by kernel_rfl)) ?_
             try go_wp2
             (try (rw [drewN_self w36]; generalize hq_ : World.drewN w36 _ = w36; have n0_ : Aside0 (Kd.S (Kd.slice 3 (Kd.int .i64)) 35 w36 w.heap.size (fun _ => True) u229000 x229000_2) := ⟨by rw [← hq_]; exact (sdl HO_229000)⟩; have n1_ : Aside0 (w36.heap[gb222]? = some (.cells #[.slice A0_0 l0_0.length c0_0] 28 (0, 0))) := ⟨by rw [← hq_]; exact (bkl BK222)⟩; have n2_ : Aside0 (w36.heap[gb223]? = some (.cells #[.slice none 0 0] 28 (0, 0))) := ⟨by rw [← hq_]; exact (bkl BK223)⟩; have n3_ : Aside0 (w36.heap[gb228]? = some (.cells #[u229000] 28 (0, 0))) := ⟨by rw [← hq_]; exact (bkl BK228)⟩; have n4_ : Aside0 (Below w.heap.size w w36) := ⟨by rw [← hq_]; exact (bel3 HB GE222 GE223 GE228)⟩; clear HO_229000 BK222 BK223 BK228 HB hq_; have HO_229000 := n0_; have BK222 := n1_; have BK223 := n2_; have BK228 := n3_; have HB := n4_; clear n0_ n1_ n2_ n3_ n4_))
             have n0_ := Aside0.mk (Kd.S_drew HO_229000.out)
             have n1_ := Aside0.mk (blk_drew BK222.out)
             have n2_ := Aside0.mk (blk_drew BK223.out)
             have n3_ := Aside0.mk (blk_drew BK228.out)
             have n4_ := Aside0.mk (below_drew1 HB.out)
             clear HO_229000
             clear BK222
             clear BK223
             clear BK228
             clear HB
             have HO_229000 := n0_
             have BK222 := n1_
             have BK223 := n2_
             have BK228 := n3_
             have HB := n4_
             clear n0_ n1_ n2_ n3_ n4_
             have p231 : 0 ≤ (x9_2 : Int) := oda
             have q231 : x9_2 < (l2.length : Int) := oda
             obtain ⟨ad231, e231, hx231_0⟩ := Kd.at_int HR2.out x9_2 p231 q231
             have hw231_0 := hx231_0
             obtain rfl : ad229 = ad231 := (by injection e231)
             replace hx231_0 := cel HB hx231_0
             replace p231 := eq_true p231
             replace q231 := eq_true q231
             have p232 : 0 ≤ (x9_2 : Int) := oda
             have q232 : x9_2 < (l2.length : Int) := oda
             obtain ⟨ad232, e232, hx232_0⟩ := Kd.at_int HR2.out x9_2 p232 q232
             have hw232_0 := hx232_0
             obtain rfl : ad229 = ad232 := (by injection e232)
             replace hx232_0 := cel HB hx232_0
             replace p232 := eq_true p232
             replace q232 := eq_true q232
             obtain ⟨Ao38, co38, eo38⟩ := Kd.S_slice HO_229000.out
             (first | subst eo38 | (injection eo38 with f1_ f2_ f3_; have f4_ := f1_.symm; have f5_ := f3_.symm; clear f1_ f2_ f3_; subst f4_; subst f5_))
             have p233 : 0 ≤ ((rd l2 x9_2) : Int) := oda
             have q233 : (rd l2 x9_2) < (x229000_2.length : Int) := oda
             obtain ⟨ad233, A233_0, c233_0, e233, hx233_0, hl233_0, hi233_0⟩ := at_L1 (Kd.S_reads' HO_229000.out).2.2 (rd l2 x9_2) p233 q233
             cases e233
             obtain ⟨ce233, hce233, hMe233, hcc233⟩ := Kd.S_get HO_229000.out [] (rd l2 x9_2) p233 (by first | exact q233 | exact oda | (have e_ := (Kd.S_reads' HO_229000.out).1; omega))
             obtain ⟨ve233_0, rfl, ge233_0⟩ := hMe233
             have hv233_0 := hcc233 0 _ rfl
             rw [Nat.add_zero, show ((Kd.slice 3 (Kd.int .i64))).sz = 1 from rfl, Nat.mul_one] at hv233_0
             replace hv233_0 := Option.some.inj (hv233_0.symm.trans hx233_0)
             rw [hv233_0] at ge233_0
             have HL233_0 := Aside0.mk (show Kd.R (Kd.int .i64) 3 _ _ _ _ (rd_L1 x229000_2 (rd l2 x9_2)) from ge233_0)
             clear hv233_0 ge233_0
             have HX233_0 := Aside0.mk hx233_0
             clear hcc233 hce233
             have HR233_0 := Aside0.mk hi233_0
             have HC233_0 := Aside0.mk hl233_0
             clear hi233_0 hl233_0
             replace p233 := eq_true p233
             replace q233 := eq_true q233
             have p234 : 0 ≤ (x9_2 : Int) := oda
             have q234 : x9_2 < (l1.length : Int) := oda
             obtain ⟨ad234, e234, hx234_0⟩ := Kd.at_int HR1.out x9_2 p234 q234
             have hw234_0 := hx234_0
             cases e234
             replace hx234_0 := cel HB hx234_0
             replace p234 := eq_true p234
             replace q234 := eq_true q234
             obtain ⟨go39, co39, eo39, gb39, gl39, cl39, HG39⟩ := Kd.S_form HO_229000.out (by have h_ : ((rd l2 x9_2) : Int) < ((x229000_2.length : Int) : Int) := oda; have h2_ : 0 ≤ ((rd l2 x9_2) : Int) := (oda); omega)
             (first | cases eo39 | (injection eo39 with ea_ en_ ec_; (first | subst ea_ | (injection ea_ with ea_; subst ea_)); subst ec_; clear en_))
             have GB39 := Aside0.mk gb39
             have GG39 := Aside0.mk HG39
             clear gb39 gl39 HG39
             (first | simp only [add_plain] at hx233_0 | skip)
             obtain ⟨oki39, ce39, hcl39, hM39, hcc39, _, _, hH39⟩ := Kd.S_elem HO_229000.out [] ((rd l2 x9_2) : Int) (oda) (by have h_ : ((rd l2 x9_2) : Int) < ((x229000_2.length : Int) : Int) := oda; first | exact h_ | (have e_ := (Kd.S_reads' HO_229000.out).1; omega) | simpa using h_)
             obtain ⟨ve39_0, rfl, ge39_0⟩ := hM39
             have hv39 := hcc39 0 _ rfl
             have hX39 := HX233_0.out
             (try simp only [add_plain] at hX39)
             (try simp only [Nat.add_zero] at hv39)
             (try rw [show ((Kd.slice 3 (Kd.int .i64))).sz = 1 from rfl, Nat.mul_one] at hv39)
             replace hv39 := Option.some.inj (hv39.symm.trans hX39)
             subst hv39
             clear hX39 hcc39 hcl39
             have UU39 := Aside0.mk (show Kd.R (Kd.int .i64) 3 _ w.heap.size oki39 (.slice A233_0 (rd_L1 x229000_2 (rd l2 x9_2)).length c233_0) (rd_L1 x229000_2 (rd l2 x9_2)) from ge39_0)
             have HH39 := Aside0.mk hH39
             have HN39 := Aside0.mk (Kd.S_reads' HO_229000.out).1
             clear hH39 ge39_0
             refine start_ (n := 22) (S := fun w' => w'.cell? ⟨gb228, 0, none⟩ = some (.slice (some ⟨go39, 0, none⟩) x229000_2.length co38) ∧ w'.cell? (ad229.add (x9_2).toNat) = some (.int .i64 (rd l2 x9_2)) ∧ w'.cell? (ad229.add (x9_2).toNat) = some (.int .i64 (rd l2 x9_2)) ∧ w'.cell? ⟨go39, ((rd l2 x9_2)).toNat, none⟩ = some (.slice A233_0 (rd_L1 x229000_2 (rd l2 x9_2)).length c233_0) ∧ w'.cell? (ad234.add (x9_2).toNat) = some (.int .i64 (rd l1 x9_2))) (ds := [21]) #[false, false, false, false, false, false, false, false, false, false, false, false, false, false, false, false, false, false, false, false, false, false] (by kernel_rfl) rfl rfl ⟨(blk_cell BK228.out 0).trans rfl, (cel HB hw231_0 :), (cel HB hw232_0 :), hx233_0, (cel HB hw234_0 :)⟩ (fun hHeld => ?_); refine with_tabW spec_ApplyPlacement.tab9 spec_ApplyPlacement.bits9 (fun HT_ HW_ => ?_)
             generalize w36.drew = w37 at HO_229000 BK222 BK223 BK228 HB GG39 HH39 HL233_0 HR233_0 HX233_0 UU39 hx231_0 hx232_0 hx233_0 hx234_0 hHeld ⊢
             refine pure_ (i := 0) (N := some 41) (v := ?_) (a' := ?_) #[true, false, false, false, false, false, false, false, false, false, false, false, false, false, false, false, false, false, false, false, false, false] rfl rfl (any_of HT_.out (by kernel_rfl)) (fun _ _ _ h => h) (Or.inl ⟨by rfl, ?_⟩) ?_ ?_
             rotate_left
             ·intro w'
              go_simp
              with_reducible rfl
             rotate_left
             ·simp only [Act.put, List.setIfInBounds_toArray, List.set_cons_zero, List.set_cons_succ, i64_w, i32_w]
              rfl
             refine pure_ (i := 2) (N := some 43) (v := ?_) (a' := ?_) #[true, false, true, false, false, false, false, false, false, false, false, false, false, false, false, false, false, false, false, false, false, false] rfl rfl (any_of HT_.out (by kernel_rfl)) (fun _ _ _ h => h) (Or.inl ⟨by rfl, ?_⟩) ?_ ?_
             rotate_left
             ·intro w'
              go_simp
              with_reducible rfl
             rotate_left
             ·simp only [Act.put, List.setIfInBounds_toArray, List.set_cons_zero, List.set_cons_succ, i64_w, i32_w]
              rfl
             refine pure_ (i := 3) (N := some 44) (v := ?_) (a' := ?_) #[true, false, true, true, false, false, false, false, false, false, false, false, false, false, false, false, false, false, false, false, false, false] rfl rfl (any_of HT_.out (by kernel_rfl)) (fun _ _ _ h => h) (Or.inl ⟨by rfl, ?_⟩) ?_ ?_
             rotate_left
             ·intro w'
              go_simp
              with_reducible rfl
             rotate_left
             ·simp only [Act.put, List.setIfInBounds_toArray, List.set_cons_zero, List.set_cons_succ, i64_w, i32_w]
              rfl
             refine pure_ (i := 4) (N := some 45) (v := ?_) (a' := ?_) #[true, false, true, true, true, false, false, false, false, false, false, false, false, false, false, false, false, false, false, false, false, false] rfl rfl (any_of HT_.out (by kernel_rfl)) (fun _ _ _ h => h) (Or.inl ⟨by rfl, ?_⟩) ?_ ?_
             rotate_left
             ·intro w'
              go_simp
              with_reducible rfl
             rotate_left
             ·simp only [Act.put, List.setIfInBounds_toArray, List.set_cons_zero, List.set_cons_succ, i64_w, i32_w]
              rfl
             refine pure_ (i := 6) (N := some 47) (v := ?_) (a' := ?_) #[true, false, true, true, true, false, true, false, false, false, false, false, false, false, false, false, false, false, false, false, false, false] rfl rfl (any_of HT_.out (by kernel_rfl)) (fun _ _ _ h => h) (Or.inl ⟨by rfl, ?_⟩) ?_ ?_
             rotate_left
             ·intro w'
              go_simp
              with_reducible rfl
             rotate_left
             ·simp only [Act.put, List.setIfInBounds_toArray, List.set_cons_zero, List.set_cons_succ, i64_w, i32_w]
              rfl
             refine pure_ (i := 8) (N := some 49) (v := ?_) (a' := ?_) #[true, false, true, true, true, false, true, false, true, false, false, false, false, false, false, false, false, false, false, false, false, false] rfl rfl (any_of HT_.out (by kernel_rfl)) (fun _ _ _ h => h) (Or.inl ⟨by rfl, ?_⟩) ?_ ?_
             rotate_left
             ·intro w'
              go_simp
              with_reducible rfl
             rotate_left
             ·simp only [Act.put, List.setIfInBounds_toArray, List.set_cons_zero, List.set_cons_succ, i64_w, i32_w]
              rfl
             refine pure_ (i := 9) (N := some 50) (v := ?_) (a' := ?_) #[true, false, true, true, true, false, true, false, true, true, false, false, false, false, false, false, false, false, false, false, false, false] rfl rfl (any_of HT_.out (by kernel_rfl)) (fun _ _ _ h => h) (Or.inl ⟨by rfl, ?_⟩) ?_ ?_
             rotate_left
             ·intro w'
              go_simp
              with_reducible rfl
             rotate_left
             ·simp only [Act.put, List.setIfInBounds_toArray, List.set_cons_zero, List.set_cons_succ, i64_w, i32_w]
              rfl
             refine pure_ (i := 10) (N := some 51) (v := ?_) (a' := ?_) #[true, false, true, true, true, false, true, false, true, true, true, false, false, false, false, false, false, false, false, false, false, false] rfl rfl (any_of HT_.out (by kernel_rfl)) (fun _ _ _ h => h) (Or.inl ⟨by rfl, ?_⟩) ?_ ?_
             rotate_left
             ·intro w'
              go_simp
              with_reducible rfl
             rotate_left
             ·simp only [Act.put, List.setIfInBounds_toArray, List.set_cons_zero, List.set_cons_succ, i64_w, i32_w]
              rfl
             refine pure_ (i := 14) (N := some 55) (v := ?_) (a' := ?_) #[true, false, true, true, true, false, true, false, true, true, true, false, false, false, true, false, false, false, false, false, false, false] rfl rfl (any_of HT_.out (by kernel_rfl)) (fun _ _ _ h => h) (Or.inl ⟨by rfl, ?_⟩) ?_ ?_
             rotate_left
             ·intro w'
              go_simp
              with_reducible rfl
             rotate_left
             ·simp only [Act.put, List.setIfInBounds_toArray, List.set_cons_zero, List.set_cons_succ, i64_w, i32_w]
              rfl
             refine pure_ (i := 15) (N := some 56) (v := ?_) (a' := ?_) #[true, false, true, true, true, false, true, false, true, true, true, false, false, false, true, true, false, false, false, false, false, false] rfl rfl (any_of HT_.out (by kernel_rfl)) (fun _ _ _ h => h) (Or.inl ⟨by rfl, ?_⟩) ?_ ?_
             rotate_left
             ·intro w'
              go_simp
              with_reducible rfl
             rotate_left
             ·simp only [Act.put, List.setIfInBounds_toArray, List.set_cons_zero, List.set_cons_succ, i64_w, i32_w]
              rfl
             refine pure_ (i := 16) (N := some 57) (v := ?_) (a' := ?_) #[true, false, true, true, true, false, true, false, true, true, true, false, false, false, true, true, true, false, false, false, false, false] rfl rfl (any_of HT_.out (by kernel_rfl)) (fun _ _ _ h => h) (Or.inl ⟨by rfl, ?_⟩) ?_ ?_
             rotate_left
             ·intro w'
              go_simp
              with_reducible rfl
             rotate_left
             ·simp only [Act.put, List.setIfInBounds_toArray, List.set_cons_zero, List.set_cons_succ, i64_w, i32_w]
              rfl
             refine take_ (i := 1) (N := some 42) (v := ?_) (a' := ?_) #[true, true, true, true, true, false, true, false, true, true, true, false, false, false, true, true, true, false, false, false, false, false] rfl rfl (take_ofW HT_.out HW_.out (by kernel_rfl)) (fun _ _ _ h => h) (Or.inl ⟨by rfl, ?_⟩) hHeld ?_ ?_
             rotate_left
             ·rintro w' ⟨s0, s1, s2, s3, s4⟩
              go_simp
              with_reducible rfl
             rotate_left
             ·simp only [Act.put, List.setIfInBounds_toArray, List.set_cons_zero, List.set_cons_succ, i64_w, i32_w]
              rfl
             refine take_ (i := 5) (N := some 46) (v := ?_) (a' := ?_) #[true, true, true, true, true, true, true, false, true, true, true, false, false, false, true, true, true, false, false, false, false, false] rfl rfl (take_ofW HT_.out HW_.out (by kernel_rfl)) (fun _ _ _ h => h) (Or.inl ⟨by rfl, ?_⟩) hHeld ?_ ?_
             rotate_left
             ·rintro w' ⟨s0, s1, s2, s3, s4⟩
              go_simp
              with_reducible rfl
             rotate_left
             ·simp only [Act.put, List.setIfInBounds_toArray, List.set_cons_zero, List.set_cons_succ, i64_w, i32_w]
              rfl
             refine take_ (i := 7) (N := some 48) (v := ?_) (a' := ?_) #[true, true, true, true, true, true, true, true, true, true, true, false, false, false, true, true, true, false, false, false, false, false] rfl rfl (take_ofW HT_.out HW_.out (by kernel_rfl)) (fun _ _ _ h => h) (Or.inl ⟨by rfl, ?_⟩) hHeld ?_ ?_
             rotate_left
             ·rintro w' ⟨s0, s1, s2, s3, s4⟩
              go_simp
              with_reducible rfl
             rotate_left
             ·simp only [Act.put, List.setIfInBounds_toArray, List.set_cons_zero, List.set_cons_succ, i64_w, i32_w]
              rfl
             refine take_ (i := 11) (N := some 52) (v := ?_) (a' := ?_) #[true, true, true, true, true, true, true, true, true, true, true, true, false, false, true, true, true, false, false, false, false, false] rfl rfl (take_ofW HT_.out HW_.out (by kernel_rfl)) (fun _ _ _ h => h) (Or.inl ⟨by rfl, ?_⟩) hHeld ?_ ?_
             rotate_left
             ·rintro w' ⟨s0, s1, s2, s3, s4⟩
              go_simp
              with_reducible rfl
             rotate_left
             ·simp only [Act.put, List.setIfInBounds_toArray, List.set_cons_zero, List.set_cons_succ, i64_w, i32_w]
              rfl
             refine pure_ (i := 12) (N := some 53) (v := ?_) (a' := ?_) #[true, true, true, true, true, true, true, true, true, true, true, true, true, false, true, true, true, false, false, false, false, false] rfl rfl (any_of HT_.out (by kernel_rfl)) (fun _ _ _ h => h) (Or.inl ⟨by rfl, ?_⟩) ?_ ?_
             rotate_left
             ·intro w'
              go_simp
              with_reducible rfl
             rotate_left
             ·simp only [Act.put, List.setIfInBounds_toArray, List.set_cons_zero, List.set_cons_succ, i64_w, i32_w]
              rfl
             refine take_ (i := 13) (N := some 54) (v := ?_) (a' := ?_) #[true, true, true, true, true, true, true, true, true, true, true, true, true, true, true, true, true, false, false, false, false, false] rfl rfl (take_ofW HT_.out HW_.out (by kernel_rfl)) (fun _ _ _ h => h) (Or.inl ⟨by rfl, ?_⟩) hHeld ?_ ?_
             rotate_left
             ·rintro w' ⟨s0, s1, s2, s3, s4⟩
              go_simp
              with_reducible rfl
             rotate_left
             ·simp only [Act.put, List.setIfInBounds_toArray, List.set_cons_zero, List.set_cons_succ, i64_w, i32_w]
              rfl
             refine take_ (i := 17) (N := some 58) (v := ?_) (a' := ?_) #[true, true, true, true, true, true, true, true, true, true, true, true, true, true, true, true, true, true, false, false, false, false] rfl rfl (take_ofW HT_.out HW_.out (by kernel_rfl)) (fun _ _ _ h => h) (Or.inl ⟨by rfl, ?_⟩) hHeld ?_ ?_
             rotate_left
             ·rintro w' ⟨s0, s1, s2, s3, s4⟩
              go_simp
              with_reducible rfl
             rotate_left
             ·simp only [Act.put, List.setIfInBounds_toArray, List.set_cons_zero, List.set_cons_succ, i64_w, i32_w]
              rfl
             refine one_ (i := 18) (N := some 59) #[true, true, true, true, true, true, true, true, true, true, true, true, true, true, true, true, true, true, true, false, false, false] rfl rfl (one_of HT_.out (by kernel_rfl)) (by decide) (fun K hK => ?_)
             refine value_ (w1 := ?_) (v := ?_) (by rfl) rfl ?_ ?_
             rotate_left 2
             ·go_simp
              constructor
              ·rfl
              ·rfl
             refine hK.out _ _ ⟨(blk_cell (blk_alloc BK228.out _) 0).trans rfl, (World.cell?_alloc_lt _ _ _ (World.block_lt_of_cell? _ _ ((cel HB hw231_0 :)))).trans ((cel HB hw231_0 :)), (World.cell?_alloc_lt _ _ _ (World.block_lt_of_cell? _ _ ((cel HB hw232_0 :)))).trans ((cel HB hw232_0 :)), (World.cell?_alloc_lt _ _ _ (World.block_lt_of_cell? _ _ (hHeld.2.2.2.1))).trans (hHeld.2.2.2.1), (World.cell?_alloc_lt _ _ _ (World.block_lt_of_cell? _ _ ((cel HB hw234_0 :)))).trans ((cel HB hw234_0 :))⟩ (fun hHeld => ?_)
             clear hK K
             refine norm_ (a' := ?_) ?_ ?_
             rotate_left
             ·show Act.put _ (some 59) _ = _
              simp only [Act.put, List.setIfInBounds_toArray, List.set_cons_zero, List.set_cons_succ, i64_w, i32_w]
              rfl
             refine one_ (i := 19) (N := some 60) #[true, true, true, true, true, true, true, true, true, true, true, true, true, true, true, true, true, true, true, true, false, false] rfl rfl (one_of HT_.out (by kernel_rfl)) (by decide) (fun K hK => ?_)
             refine Kd.R_append_step (Kd.int .i64) (w0 := w) w.heap.size (by rfl) (.tmp 54) (.tmp 59) 35 3 (.int .i64 0) 8 rfl Try.underlying35 info3 rfl (by decide) (by omega) (.slice A233_0 (rd_L1 x229000_2 (rd l2 x9_2)).length c233_0) (rd_L1 x229000_2 (rd l2 x9_2)) (rd l1 x9_2) [.int .i64 (rd l1 x9_2)] (fun k_ => oki39 k_ ∨ ((fun _ => True)) k_ ∧ w37.heap.size ≤ k_) (fun _ => False) rfl rfl ?aP (fun _ hk => hk.elim) ?aF ?aO ?aB ?aS ?aL ?_
             (case aP => exact rfl)
             (case aB => exact (bel3 HB GE222 GE223 GE228))
             (case aF => exact (fun k_ hk => .inr ⟨trivial, hk⟩))
             (case aO => exact (by (with_reducible repeat (first | apply Kd.R_alloc | apply Kd.R_drewN | apply Kd.R_drew)); exact Kd.R_mono UU39.out (fun _ hk => .inl hk)))
             (case aS => exact (below_size (bel3 HB GE222 GE223 GE228)))
             (case aL => have := LMc34.out; omega)
             intro v236 w40 ho hb hg hat
             (first | have HS3_ := cell_grown hg (hHeld.2.2.2.1) (by first | (rw [add_block]; exact (fun e_ => ((HL233_0.out.1 _ e_.symm).2) rfl)) | (show some (Addr.add _ _).block ≠ _; rw [add_block]; exact (fun e_ => ((HL233_0.out.1 _ e_.symm).2) rfl)) | exact (fun e_ => ((HL233_0.out.1 _ e_.symm).2) rfl)) | have HS3_ := cell_grown hg (cell_unalloc (hHeld.2.2.2.1) (by first | (rw [add_block]; exact Kd.S_lt HO_229000.out _ rfl) | (show (Addr.add _ _).block < _; rw [add_block]; exact Kd.S_lt HO_229000.out _ rfl) | exact Kd.S_lt HO_229000.out _ rfl)) (by first | (rw [add_block]; exact (fun e_ => ((HL233_0.out.1 _ e_.symm).2) rfl)) | (show some (Addr.add _ _).block ≠ _; rw [add_block]; exact (fun e_ => ((HL233_0.out.1 _ e_.symm).2) rfl)) | exact (fun e_ => ((HL233_0.out.1 _ e_.symm).2) rfl)))
             rw [← Ny235.out] at ho
             have n0_ := Aside0.mk (blk_grown (g := gb222) (o := .cells #[.slice A0_0 l0_0.length c0_0] 28 (0, 0)) (bkl BK222) hg (Kd.R_ne HL233_0.out BK222.out (by decide)))
             have n1_ := Aside0.mk (blk_grown (g := gb223) (o := .cells #[.slice none 0 0] 28 (0, 0)) (bkl BK223) hg (Kd.R_ne HL233_0.out BK223.out (by decide)))
             have n2_ := Aside0.mk (blk_grown (g := gb228) (o := .cells #[.slice (some ⟨go39, 0, none⟩) x229000_2.length co38] 28 (0, 0)) (bkl BK228) hg (Kd.R_ne HL233_0.out BK228.out (by decide)))
             have n3_ := Aside0.mk (hb)
             have n4_ := Aside0.mk (Kd.H_grown (Kd.H_widen (by repeat (first | exact HH39.out | refine Kd.H_alloc ?_ _ | refine Kd.H_drewN ?_ _ | refine Kd.H_drew ?_))) hg (fun k_ e_ => .inl (UU39.out.1 k_ e_)))
             have n5_ := Aside0.mk (ho)
             clear BK222
             clear BK223
             clear BK228
             clear HB
             clear HH39
             clear HO_229000
             clear UU39
             clear HL233_0
             have BK222 := n0_
             have BK223 := n1_
             have BK228 := n2_
             have HB := n3_
             have HH39 := n4_
             have HO237 := n5_
             clear n0_ n1_ n2_ n3_ n4_ n5_
             clear ho hb hg hat
             have p35 : 0 ≤ ((rd l2 x9_2) : Int) := oda
             have q35 : ((rd l2 x9_2) : Int) < ((x229000_2.length : Int) : Int) := oda
             replace p35 := eq_true p35
             replace q35 := eq_true q35
             obtain ⟨Ao43, co43, eo43⟩ := Kd.R_slice HO237.out
             (first | subst eo43 | (injection eo43 with f1_ f2_ f3_; have f4_ := f1_.symm; have f5_ := f3_.symm; clear f1_ f2_ f3_; subst f4_; subst f5_))
             obtain ⟨_, _, hraw41, _, _, hcc41, _⟩ := Kd.H_raw HH39.out (oda) (by have h_ : ((rd l2 x9_2) : Int) < ((x229000_2.length : Int) : Int) := oda; first | exact h_ | (have e_ := (HN39.out); omega) | simpa using h_)
             obtain ⟨_, hfr41⟩ := Kd.H_at HH39.out (oda) (by have h_ : ((rd l2 x9_2) : Int) < ((x229000_2.length : Int) : Int) := oda; first | exact h_ | (have e_ := (HN39.out); omega) | simpa using h_)
             have hx41_0 := hcc41 0 _ rfl
             have hf41_0 := hfr41 0
             (try simp only [Nat.add_zero] at hx41_0 hf41_0)
             (try rw [show ((Kd.slice 3 (Kd.int .i64))).sz = 1 from rfl, Nat.mul_one] at hx41_0)
             (try rw [show ((Kd.slice 3 (Kd.int .i64))).sz = 1 from rfl, Nat.mul_one] at hf41_0)
             have HP41 := Kd.S_seg0 HH39.out (oda) (by have h_ : ((rd l2 x9_2) : Int) < ((x229000_2.length : Int) : Int) := oda; first | exact h_ | (have e_ := (HN39.out); omega) | simpa using h_) (seg := [.slice Ao43 y235.length co43]) (j := 0) (show 1 ≤ 1 from by decide) (x' := y235) (Kd.M_row HO237.out) (fun _ hk => hk)
             (try simp only [show ((Kd.slice 3 (Kd.int .i64))).sz = 1 from rfl, Nat.mul_one, Nat.add_zero] at HP41)
             clear hcc41 hfr41
             have HNB222_go39 := Aside0.mk (show gb222 ≠ go39 from by have h_ := Kd.R_ne hraw41 BK222.out (by decide); intro e_; exact h_ (by rw [e_]; rfl))
             have HNB223_go39 := Aside0.mk (show gb223 ≠ go39 from by have h_ := Kd.R_ne hraw41 BK223.out (by decide); intro e_; exact h_ (by rw [e_]; rfl))
             have HNB228_go39 := Aside0.mk (show gb228 ≠ go39 from by have h_ := Kd.R_ne hraw41 BK228.out (by decide); intro e_; exact h_ (by rw [e_]; rfl))
             have HS41 := HP41.1
             rw [← Ny238.out] at HS41
             have HQ41 := Aside0.mk HS41
             obtain ⟨_, hgg41⟩ := Kd.R_typed hraw41 go39 rfl
             have GG41_ := Aside0.mk hgg41
             clear HP41 HS41 hgg41
             refine hK.out _ _ ⟨(blk_cell BK228.out 0).trans rfl, (cel HB hw231_0 :), (cel HB hw232_0 :), HS3_, (cel HB hw234_0 :)⟩ (fun hHeld => ?_)
             clear hK K
             refine norm_ (a' := ?_) ?_ ?_
             rotate_left
             ·show Act.put _ (some 60) _ = _
              simp only [Act.put, List.setIfInBounds_toArray, List.set_cons_zero, List.set_cons_succ, i64_w, i32_w]
              rfl
             refine pure_ (i := 20) (N := some 61) (v := ?_) (a' := ?_) #[true, true, true, true, true, true, true, true, true, true, true, true, true, true, true, true, true, true, true, true, true, false] rfl rfl (any_of HT_.out (by kernel_rfl)) (fun _ _ _ h => h) (Or.inl ⟨by rfl, ?_⟩) ?_ ?_
             rotate_left
             ·intro w'
              go_simp
              with_reducible rfl
             rotate_left
             ·simp only [Act.put, List.setIfInBounds_toArray, List.set_cons_zero, List.set_cons_succ, i64_w, i32_w]
              rfl
             refine last_ (i := 21) (N := none) #[true, true, true, true, true, true, true, true, true, true, true, true, true, true, true, true, true, true, true, true, true, true] rfl rfl (one_of HT_.out (by kernel_rfl)) (by decide) (fun K hK => ?_)
             refine skip_ (w1 := ?_) (by rfl) rfl ?_ ?_
             rotate_left
             ·go_simp
              rfl
             refine hK.out _ _ ?_
             clear hK K
             refine done_ (done_of HT_.out (by kernel_rfl)) ?_
             try go_wp2
             go_roundg k2
             case measure => have := HJ3.out; have := HK2.out; omega
             case rel => exact ⟨(wrap64 (x9_2 + 1)), (y238), (.slice (some ⟨go39, 0, none⟩) x229000_2.length co38), (by first | rfl | (simp; done) | (simp [*]; done)), H', ⟨by have := HJ3.out; have := HK2.out; omega⟩, ⟨sdl HQ41⟩, ⟨by (with_reducible repeat (first | refine blk_drewN ?_ _ | refine blk_drew ?_ | refine blk_alloc ?_ _)); refine blk_far ?_ HNB222_go39.out _; (with_reducible repeat (first | refine blk_drewN ?_ _ | refine blk_drew ?_ | refine blk_alloc ?_ _)); exact BK222.out⟩, ⟨by (with_reducible repeat (first | refine blk_drewN ?_ _ | refine blk_drew ?_ | refine blk_alloc ?_ _)); refine blk_far ?_ HNB223_go39.out _; (with_reducible repeat (first | refine blk_drewN ?_ _ | refine blk_drew ?_ | refine blk_alloc ?_ _)); exact BK223.out⟩, ⟨by (with_reducible repeat (first | refine blk_drewN ?_ _ | refine blk_drew ?_ | refine blk_alloc ?_ _)); refine blk_far ?_ HNB228_go39.out _; (with_reducible repeat (first | refine blk_drewN ?_ _ | refine blk_drew ?_ | refine blk_alloc ?_ _)); exact BK228.out⟩, ⟨by repeat (first | (with_reducible first | exact HB.out | apply below_alloc | apply pw_below_drewN | apply below_drew1 | refine below_set ?_ GB39.out | refine below_set ?_ GE222.out | refine below_set ?_ GE223.out | refine below_set ?_ GE228.out) | exact HB.out)⟩⟩
            ·rw [if_neg c34] at H
             exact absurd H (by simp)
           ·rw [if_neg c33] at H
            exact absurd H (by simp)
          ·rw [if_neg c32] at H
           exact absurd H (by simp)
         ·replace c31 := Bool.eq_false_iff.mpr c31
          subst c31
          have H1 : (some (([] : List (List Int)), false)) = some (r1, r2) := by rw [if_neg (show ¬ (false = true) by decide)] at H; exact H
          clear H
          have H := H1
          clear H1
          simp only [Option.some.injEq, Prod.mk.injEq] at H
          obtain ⟨rfl, rfl⟩ := H
          try go_wp2
          have n0_ := Aside0.mk (Kd.S_drew HO_229000.out)
          have n1_ := Aside0.mk (blk_drew BK222.out)
          have n2_ := Aside0.mk (blk_drew BK223.out)
          have n3_ := Aside0.mk (blk_drew BK228.out)
          have n4_ := Aside0.mk (below_drew1 HB.out)
          clear HO_229000
          clear BK222
          clear BK223
          clear BK228
          clear HB
          have HO_229000 := n0_
          have BK222 := n1_
          have BK223 := n2_
          have BK228 := n3_
          have HB := n4_
          clear n0_ n1_ n2_ n3_ n4_
          have p229 : 0 ≤ (x9_2 : Int) := oda
          have q229 : x9_2 < (l2.length : Int) := oda
          obtain ⟨ad229, e229, hx229_0⟩ := Kd.at_int HR2.out x9_2 p229 q229
          have hw229_0 := hx229_0
          cases e229
          replace hx229_0 := cel HB hx229_0
          replace p229 := eq_true p229
          replace q229 := eq_true q229
          refine start_ (n := 10) (S := fun w' => w'.cell? ⟨gb222, 0, none⟩ = some (.slice A0_0 l0_0.length c0_0) ∧ w'.cell? (ad229.add (x9_2).toNat) = some (.int .i64 (rd l2 x9_2))) (ds := []) #[false, false, false, false, false, false, false, false, false, false] (by kernel_rfl) rfl rfl ⟨(blk_cell BK222.out 0).trans rfl, (cel HB hw229_0 :)⟩ (fun hHeld => ?_); refine with_tabW spec_ApplyPlacement.tab7 spec_ApplyPlacement.bits7 (fun HT_ HW_ => ?_)
          generalize wr.drew = w44 at HO_229000 BK222 BK223 BK228 HB hx229_0 hHeld ⊢
          refine pure_ (i := 0) (N := some 30) (v := ?_) (a' := ?_) #[true, false, false, false, false, false, false, false, false, false] rfl rfl (any_of HT_.out (by kernel_rfl)) (fun _ _ _ h => h) (Or.inl ⟨by rfl, ?_⟩) ?_ ?_
          rotate_left
          ·intro w'
           go_simp
           with_reducible rfl
          rotate_left
          ·simp only [Act.put, List.setIfInBounds_toArray, List.set_cons_zero, List.set_cons_succ, i64_w, i32_w]
           rfl
          refine pure_ (i := 1) (N := some 31) (v := ?_) (a' := ?_) #[true, true, false, false, false, false, false, false, false, false] rfl rfl (any_of HT_.out (by kernel_rfl)) (fun _ _ _ h => h) (Or.inl ⟨by rfl, ?_⟩) ?_ ?_
          rotate_left
          ·intro w'
           go_simp
           with_reducible rfl
          rotate_left
          ·simp only [Act.put, List.setIfInBounds_toArray, List.set_cons_zero, List.set_cons_succ, i64_w, i32_w]
           rfl
          refine pure_ (i := 2) (N := some 32) (v := ?_) (a' := ?_) #[true, true, true, false, false, false, false, false, false, false] rfl rfl (any_of HT_.out (by kernel_rfl)) (fun _ _ _ h => h) (Or.inl ⟨by rfl, ?_⟩) ?_ ?_
          rotate_left
          ·intro w'
           go_simp
           with_reducible rfl
          rotate_left
          ·simp only [Act.put, List.setIfInBounds_toArray, List.set_cons_zero, List.set_cons_succ, i64_w, i32_w]
           rfl
          refine pure_ (i := 4) (N := some 34) (v := ?_) (a' := ?_) #[true, true, true, false, true, false, false, false, false, false] rfl rfl (any_of HT_.out (by kernel_rfl)) (fun _ _ _ h => h) (Or.inl ⟨by rfl, ?_⟩) ?_ ?_
          rotate_left
          ·intro w'
           go_simp
           with_reducible rfl
          rotate_left
          ·simp only [Act.put, List.setIfInBounds_toArray, List.set_cons_zero, List.set_cons_succ, i64_w, i32_w]
           rfl
          refine take_ (i := 3) (N := some 33) (v := ?_) (a' := ?_) #[true, true, true, true, true, false, false, false, false, false] rfl rfl (take_ofW HT_.out HW_.out (by kernel_rfl)) (fun _ _ _ h => h) (Or.inl ⟨by rfl, ?_⟩) hHeld ?_ ?_
          rotate_left
          ·rintro w' ⟨s0, s1⟩
           go_simp
           with_reducible rfl
          rotate_left
          ·simp only [Act.put, List.setIfInBounds_toArray, List.set_cons_zero, List.set_cons_succ, i64_w, i32_w]
           rfl
          refine take_ (i := 5) (N := some 35) (v := ?_) (a' := ?_) #[true, true, true, true, true, true, false, false, false, false] rfl rfl (take_ofW HT_.out HW_.out (by kernel_rfl)) (fun _ _ _ h => h) (Or.inl ⟨by rfl, ?_⟩) hHeld ?_ ?_
          rotate_left
          ·rintro w' ⟨s0, s1⟩
           go_simp
           with_reducible rfl
          rotate_left
          ·simp only [Act.put, List.setIfInBounds_toArray, List.set_cons_zero, List.set_cons_succ, i64_w, i32_w]
           rfl
          refine pure_ (i := 6) (N := some 36) (v := ?_) (a' := ?_) #[true, true, true, true, true, true, true, false, false, false] rfl rfl (any_of HT_.out (by kernel_rfl)) (fun _ _ _ h => h) (Or.inl ⟨by rfl, ?_⟩) ?_ ?_
          rotate_left
          ·intro w'
           go_simp
           with_reducible rfl
          rotate_left
          ·simp only [Act.put, List.setIfInBounds_toArray, List.set_cons_zero, List.set_cons_succ, i64_w, i32_w]
           rfl
          refine pure_ (i := 7) (N := some 37) (v := ?_) (a' := ?_) #[true, true, true, true, true, true, true, true, false, false] rfl rfl (any_of HT_.out (by kernel_rfl)) (fun _ _ _ h => h) (Or.inl ⟨by rfl, ?_⟩) ?_ ?_
          rotate_left
          ·intro w'
           go_simp
           with_reducible rfl
          rotate_left
          ·simp only [Act.put, List.setIfInBounds_toArray, List.set_cons_zero, List.set_cons_succ, i64_w, i32_w]
           rfl
          refine one_ (i := 8) (N := some 38) #[true, true, true, true, true, true, true, true, true, false] rfl rfl (one_of HT_.out (by kernel_rfl)) (by decide) (fun K hK => ?_)
          refine goes_ Try.func73 (by kernel_rfl) rfl #[.int .i64 (rd l2 x9_2), .int .i64 0, .int .i64 (wrap64 ((l0_0.length : Int) - 1))] (by rfl) rfl rfl gmp ?_
          with_reducible refine (spec_l1In.calls (rd l2 x9_2) 0 (wrap64 ((l0_0.length : Int) - 1)) false _ A30.out).mono ?_
          rintro e w' ⟨rfl, ⟨nd, rfl⟩⟩
          refine ⟨_, rfl, ?_⟩
          refine hK.out _ _ ⟨(blk_cell BK222.out 0).trans rfl, (cel HB hw229_0 :)⟩ (fun hHeld => ?_)
          clear hK K
          refine norm_ (a' := ?_) ?_ ?_
          rotate_left
          ·show Act.put _ (some 38) _ = _
           simp only [Act.put, List.setIfInBounds_toArray, List.set_cons_zero, List.set_cons_succ, i64_w, i32_w]
           rfl
          refine pure_ (i := 9) (N := some 39) (v := ?_) (a' := ?_) #[true, true, true, true, true, true, true, true, true, true] rfl rfl (any_of HT_.out (by kernel_rfl)) (fun _ _ _ h => h) (Or.inl ⟨by rfl, ?_⟩) ?_ ?_
          rotate_left
          ·intro w'
           go_simp
           with_reducible rfl
          rotate_left
          ·simp only [Act.put, List.setIfInBounds_toArray, List.set_cons_zero, List.set_cons_succ, i64_w, i32_w]
           rfl
          refine done_ (done_of HT_.out (by kernel_rfl)) ?_
          have hnb45 := NB223_222.out
          have hnc45 := NB222_223.out
          have hnb46 := NB223_228.out
          have hnc46 := NB228_223.out
          have hcz47_0 : w44.cell? ⟨gb223, 0, none⟩ = some (.slice none 0 0) := (blk_cell BK223.out 0).trans rfl
          have hfz47_0 := blk_frozen BK223.out 0
          try go_wp2
          refine bodyPost_ret (results_ct rfl _ _ gb223 28 #[.slice none 0 0] (0, 0) _ rfl (by (with_reducible repeat (first | refine blk_drewN ?_ _ | refine blk_drew ?_ | refine blk_alloc ?_ _)); refine blk_put (cs := #[.slice none 0 0]) ?_ 0 _ rfl; (with_reducible repeat (first | refine blk_drewN ?_ _ | refine blk_drew ?_ | refine blk_alloc ?_ _)); exact BK223.out) Try.underlying28 rfl (by kernel_rfl)) rfl ?_
          exact ⟨_, by first | rfl | (simp [errW_none, errW_some] <;> rfl) | (simp [*, errW_none, errW_some] <;> rfl), by first | exact Kd.S_nil _ _ _ _ _ | exact Kd.N_nil _ _ _ _ _ | exact Kd.V_nil _ _ _ _ _ | exact Kd.Q_nil _ _ _ _ _ | exact Kd.R_nil _ _ _ _ _, bel3 HB GE222 GE223 GE228⟩
        ·rw [if_neg c29] at H
         exact absurd H (by simp)
       ·rw [if_neg c28] at H
        exact absurd H (by simp)
      ·rw [if_neg c27] at H
       have c27b0 : decide (x9_2 < (l1.length : Int)) = false := decide_eq_false c27
       clear c27
       replace H := Option.bind_eq_some_iff.mp H
       obtain ⟨t239, A480, H⟩ := H
       replace H : (if t239 = true then (some (x229000_2, true)) else (some (([] : List (List Int)), false))) = some (r1, r2) := H
       have A48 := Aside0.mk A480
       clear A480
       by_cases c49 : t239 = true
       ·subst c49
        have H1 : (some (x229000_2, true)) = some (r1, r2) := by rw [if_pos rfl] at H; exact H
        clear H
        have H := H1
        clear H1
        simp only [Option.some.injEq, Prod.mk.injEq] at H
        obtain ⟨rfl, rfl⟩ := H
        have hnb50 := NB228_222.out
        have hnc50 := NB222_228.out
        have hnb51 := NB228_223.out
        have hnc51 := NB223_228.out
        have hcz52_0 : wr.cell? ⟨gb228, 0, none⟩ = some (u229000) := (blk_cell BK228.out 0).trans rfl
        have hfz52_0 := blk_frozen BK228.out 0
        obtain ⟨Ao53, co53, eo53⟩ := Kd.S_slice HO_229000.out
        subst eo53
        go_wp2_with (first | ((with_reducible refine gate_callee (f := 47) rfl ?_); refine goesL_ (some 63) rfl rfl Try.func47 (by kernel_rfl) rfl #[.agg #[.slice Ao53 x229000_2.length co53]] rfl gmp ?_; (with_reducible refine (spec_l5Good.calls k2 _ _ x229000_2 true _ ?side1 ?side2 A48.out).mono ?_); (case side1 => repeat (first | exact (Kd.S_reads' HO_229000.out).2.2 | (with_reducible refine Kd.C_alloc ?_ _) | (with_reducible refine Kd.C_drewN ?_ _) | (with_reducible refine Kd.C_drew ?_))); (case side2 => exact (Kd.S_reads' HO_229000.out).2.1); rintro e w54 ⟨rfl, hb⟩; refine ⟨_, rfl, ?_⟩; have n0_ := Aside0.mk (Kd.S_below (sdl HO_229000) hb); have n1_ := Aside0.mk (blk_below (g := gb222) (o := .cells #[.slice A0_0 l0_0.length c0_0] 28 (0, 0)) (bkl BK222) hb); have n2_ := Aside0.mk (blk_below (g := gb223) (o := .cells #[.slice none 0 0] 28 (0, 0)) (bkl BK223) hb); have n3_ := Aside0.mk (blk_below (g := gb228) (o := .cells #[.slice Ao53 x229000_2.length co53] 28 (0, 0)) (bkl BK228) hb); have n4_ := Aside0.mk (below_step (bel3 HB GE222 GE223 GE228) hb); clear HO_229000; clear BK222; clear BK223; clear BK228; clear HB; have HO_229000 := n0_; have BK222 := n1_; have BK223 := n2_; have BK228 := n3_; have HB := n4_; clear n0_ n1_ n2_ n3_ n4_; (try clear hb); (try clear hb2); (try clear hk); (try clear hi); have hcz55_0 : w54.cell? ⟨gb228, 0, none⟩ = some (.slice Ao53 x229000_2.length co53) := (blk_cell BK228.out 0).trans rfl; have hfz55_0 := blk_frozen BK228.out 0; have hnb56 := NB223_222.out; have hnc56 := NB222_223.out; have hcz57_0 : w54.cell? ⟨gb223, 0, none⟩ = some (.slice none 0 0) := (blk_cell BK223.out 0).trans rfl; have hfz57_0 := blk_frozen BK223.out 0))
        refine bodyPost_ret (results_ct rfl _ _ gb223 28 #[.slice Ao53 x229000_2.length co53] (0, 0) _ rfl (by (with_reducible repeat (first | refine blk_drewN ?_ _ | refine blk_drew ?_ | refine blk_alloc ?_ _)); refine blk_put (cs := #[.slice none 0 0]) ?_ 0 _ rfl; (with_reducible repeat (first | refine blk_drewN ?_ _ | refine blk_drew ?_ | refine blk_alloc ?_ _)); exact BK223.out) Try.underlying28 rfl (by kernel_rfl)) rfl ?_
        exact ⟨_, by first | rfl | (simp [errW_none, errW_some] <;> rfl) | (simp [*, errW_none, errW_some] <;> rfl), by (with_reducible repeat (first | apply Kd.S_alloc | apply Kd.S_drewN | apply Kd.S_drew)); exact Kd.S_mono (Kd.S_far (p := ⟨gb223, 0, none⟩) (Kd.S_types HO_229000.out BK223.out (by decide)) (fun _ hk => hk.2) (.slice Ao53 x229000_2.length co53)) (fun _ hk => trivial), bel3 HB GE222 GE223 GE228⟩
       ·replace c49 := Bool.eq_false_iff.mpr c49
        subst c49
        have H1 : (some (([] : List (List Int)), false)) = some (r1, r2) := by rw [if_neg (show ¬ (false = true) by decide)] at H; exact H
        clear H
        have H := H1
        clear H1
        simp only [Option.some.injEq, Prod.mk.injEq] at H
        obtain ⟨rfl, rfl⟩ := H
        have hnb58 := NB228_222.out
        have hnc58 := NB222_228.out
        have hnb59 := NB228_223.out
        have hnc59 := NB223_228.out
        have hcz60_0 : wr.cell? ⟨gb228, 0, none⟩ = some (u229000) := (blk_cell BK228.out 0).trans rfl
        have hfz60_0 := blk_frozen BK228.out 0
        obtain ⟨Ao61, co61, eo61⟩ := Kd.S_slice HO_229000.out
        subst eo61
        go_wp2_with (first | ((with_reducible refine gate_callee (f := 47) rfl ?_); refine goesL_ (some 63) rfl rfl Try.func47 (by kernel_rfl) rfl #[.agg #[.slice Ao61 x229000_2.length co61]] rfl gmp ?_; (with_reducible refine (spec_l5Good.calls k2 _ _ x229000_2 false _ ?side1 ?side2 A48.out).mono ?_); (case side1 => repeat (first | exact (Kd.S_reads' HO_229000.out).2.2 | (with_reducible refine Kd.C_alloc ?_ _) | (with_reducible refine Kd.C_drewN ?_ _) | (with_reducible refine Kd.C_drew ?_))); (case side2 => exact (Kd.S_reads' HO_229000.out).2.1); rintro e w62 ⟨rfl, hb⟩; refine ⟨_, rfl, ?_⟩; have n0_ := Aside0.mk (Kd.S_below (sdl HO_229000) hb); have n1_ := Aside0.mk (blk_below (g := gb222) (o := .cells #[.slice A0_0 l0_0.length c0_0] 28 (0, 0)) (bkl BK222) hb); have n2_ := Aside0.mk (blk_below (g := gb223) (o := .cells #[.slice none 0 0] 28 (0, 0)) (bkl BK223) hb); have n3_ := Aside0.mk (blk_below (g := gb228) (o := .cells #[.slice Ao61 x229000_2.length co61] 28 (0, 0)) (bkl BK228) hb); have n4_ := Aside0.mk (below_step (bel3 HB GE222 GE223 GE228) hb); clear HO_229000; clear BK222; clear BK223; clear BK228; clear HB; have HO_229000 := n0_; have BK222 := n1_; have BK223 := n2_; have BK228 := n3_; have HB := n4_; clear n0_ n1_ n2_ n3_ n4_; (try clear hb); (try clear hb2); (try clear hk); (try clear hi); have hnb63 := NB223_222.out; have hnc63 := NB222_223.out; have hcz64_0 : w62.cell? ⟨gb223, 0, none⟩ = some (.slice none 0 0) := (blk_cell BK223.out 0).trans rfl; have hfz64_0 := blk_frozen BK223.out 0))
        refine bodyPost_ret (results_ct rfl _ _ gb223 28 #[.slice none 0 0] (0, 0) _ rfl (by (with_reducible repeat (first | refine blk_drewN ?_ _ | refine blk_drew ?_ | refine blk_alloc ?_ _)); refine blk_put (cs := #[.slice none 0 0]) ?_ 0 _ rfl; (with_reducible repeat (first | refine blk_drewN ?_ _ | refine blk_drew ?_ | refine blk_alloc ?_ _)); exact BK223.out) Try.underlying28 rfl (by kernel_rfl)) rfl ?_
        exact ⟨_, by first | rfl | (simp [errW_none, errW_some] <;> rfl) | (simp [*, errW_none, errW_some] <;> rfl), by first | exact Kd.S_nil _ _ _ _ _ | exact Kd.N_nil _ _ _ _ _ | exact Kd.V_nil _ _ _ _ _ | exact Kd.Q_nil _ _ _ _ _ | exact Kd.R_nil _ _ _ _ _, bel3 HB GE222 GE223 GE228⟩

/-! ### laws_heldIntS: function 25 -/
def laws_heldIntS.l0 : Nat → List Int → Int → Int → Option (Int)
 | 0, _, _, _ => none
 | k + 1, x0, x1, x5 => if x5 < (x0.length : Int) then (if 0 ≤ x5 then (if (rd x0 x5) = x1 then (laws_heldIntS.l0 k x0 (wrap64 (x1 + 1)) (wrap64 (x5 + 1))) else (some (-1))) else (none)) else (some x1)
def laws_heldIntS.f (k : Nat) (l0 : List Int) (a1 : Int) : Option (Int) := laws_heldIntS.l0 k l0 a1 0
theorem laws_heldIntS.mono_l : ∀ k, (∀ y0 y1 y2, LeO (laws_heldIntS.l0 k y0 y1 y2) (laws_heldIntS.l0 (k + 1) y0 y1 y2))
 | 0 => fun _ _ _ r h => by simp [laws_heldIntS.l0] at h
 | k + 1 => by
  have ih0 := laws_heldIntS.mono_l k
  ·intro y0 y1 y2
   unfold laws_heldIntS.l0
   repeat' first
   | (with_reducible exact ih0 _ _ _)
   | (with_reducible exact LeO.refl _)
   | (with_reducible exact LeO.none _)
   | (with_reducible refine LeO.ite ?_ ?_)
   | (with_reducible refine LeO.bind ?_ (fun _ => ?_))
   | exact ih0 _ _ _
   | exact LeO.none _
   | refine LeO.ite ?_ ?_
   | refine LeO.bind ?_ (fun _ => ?_)
theorem laws_heldIntS.mono : ∀ a0 a1 k, LeO (laws_heldIntS.f k a0 a1) (laws_heldIntS.f (k + 1) a0 a1) := by
 intro a0 a1 k
 have ih0 := laws_heldIntS.mono_l k
 unfold laws_heldIntS.f
 repeat' first
   | (with_reducible exact ih0 _ _ _)
   | (with_reducible exact LeO.refl _)
   | (with_reducible exact LeO.none _)
   | (with_reducible refine LeO.ite ?_ ?_)
   | (with_reducible refine LeO.bind ?_ (fun _ => ?_))
   | exact ih0 _ _ _
   | exact LeO.none _
   | refine LeO.ite ?_ ?_
   | refine LeO.bind ?_ (fun _ => ?_)
set_option maxHeartbeats 8000000 in
set_option maxRecDepth 100000 in
theorem laws_heldIntS.calls (k : Nat) (A0 : Option Addr) (c0 : Nat) (l0 : List Int) (a1 : Int) (r : Int) (w : World) (hr0 : Kd.C (Kd.int .i64) w A0 l0.length l0) (hc0 : l0.length ≤ c0) (h : laws_heldIntS.f k l0 a1 = some r) :
  Calls Try.prog 25 #[.slice A0 l0.length c0, .int .i64 a1] w fun e w' => e = .returned (.int .i64 r) ∧ Drawn0 w w' := by
 have HR0 := Aside0.mk hr0
 have HC0 := Aside0.mk hc0
 clear hr0 hc0
 have H : (laws_heldIntS.l0 k l0 a1 0) = some r := h
 clear h
 have H' := Aside0.mk H
 clear H
 go_enter Try.func25, Try.ntmps25
 go_wp2
 go_loopg [1, 5] k (fun kq v1 v5 w' => ∃ (x1_1 : Int) (x5_1 : Int), v1 = .int .i64 x1_1 ∧ v5 = .int .i64 x5_1 ∧ Aside0 (laws_heldIntS.l0 kq l0 x1_1 x5_1 = some r) ∧ Aside0 (kq ≤ k) ∧ Drawn0 w w')
 case atStart => exact ⟨(a1), (0), (by first | rfl | (simp; done) | (simp [*]; done)), (by first | rfl | (simp; done) | (simp [*]; done)), H', ⟨Nat.le_refl _⟩, by repeat (first | exact Drawn0.refl _ | apply Drawn0.step)⟩
 case round =>
  clear H'
  try clear c2
  try clear p2
  obtain ⟨x1_1, x5_1, rfl, rfl, HA, HK1, ⟨m1, rfl⟩⟩ := hrel
  cases gk with
  | zero => exact absurd HA.out (by simp [laws_heldIntS.l0])
  | succ k1 =>
   have H := HA.out
   clear HA
   simp only [laws_heldIntS.l0] at H
   by_cases c3 : x5_1 < (l0.length : Int)
   ·rw [if_pos c3] at H
    have c3b0 : decide (x5_1 < (l0.length : Int)) = true := decide_eq_true c3
    clear c3
    by_cases c4 : 0 ≤ x5_1
    ·rw [if_pos c4] at H
     have c4b0 : decide (0 ≤ x5_1) = true := decide_eq_true c4
     clear c4
     by_cases c5 : (rd l0 x5_1) = x1_1
     ·rw [if_pos c5] at H
      have c5b0 : ((rd l0 x5_1) == x1_1) = true := beq_iff_eq.mpr c5
      have c5b1 : ((rd l0 x5_1) != x1_1) = false := bne_eq_false_iff_eq.mpr c5
      clear c5
      have H' := Aside0.mk H
      clear H
      have p240 : 0 ≤ (x5_1 : Int) := oda
      have q240 : x5_1 < (l0.length : Int) := oda
      obtain ⟨ad240, e240, hx240_0⟩ := Kd.at_int HR0.out x5_1 p240 q240
      cases e240
      replace p240 := eq_true p240
      replace q240 := eq_true q240
      go_wp2
      go_roundg k1
      case measure => have := HK1.out; omega
      case rel => exact ⟨(wrap64 (x1_1 + 1)), (wrap64 (x5_1 + 1)), (by first | rfl | (simp; done) | (simp [*]; done)), (by first | rfl | (simp; done) | (simp [*]; done)), H', ⟨by have := HK1.out; omega⟩, by repeat (first | exact Drawn0.refl _ | apply Drawn0.step)⟩
     ·rw [if_neg c5] at H
      have c5b0 : ((rd l0 x5_1) == x1_1) = false := beq_eq_false_iff_ne.mpr c5
      have c5b1 : ((rd l0 x5_1) != x1_1) = true := bne_iff_ne.mpr c5
      obtain rfl := Option.some.inj H
      have p240 : 0 ≤ (x5_1 : Int) := oda
      have q240 : x5_1 < (l0.length : Int) := oda
      obtain ⟨ad240, e240, hx240_0⟩ := Kd.at_int HR0.out x5_1 p240 q240
      cases e240
      replace p240 := eq_true p240
      replace q240 := eq_true q240
      go_wp2
      go_ret
      exact ⟨by first | rfl | (simp; done) | (simp [*]; done), by repeat (first | exact Drawn0.refl _ | apply Drawn0.step)⟩
    ·rw [if_neg c4] at H
     exact absurd H (by simp)
   ·rw [if_neg c3] at H
    have c3b0 : decide (x5_1 < (l0.length : Int)) = false := decide_eq_false c3
    clear c3
    obtain rfl := Option.some.inj H
    go_wp2
    go_ret
    exact ⟨by first | rfl | (simp; done) | (simp [*]; done), by repeat (first | exact Drawn0.refl _ | apply Drawn0.step)⟩

end Go.Proofs.Ytchjkaondonldaa.P
