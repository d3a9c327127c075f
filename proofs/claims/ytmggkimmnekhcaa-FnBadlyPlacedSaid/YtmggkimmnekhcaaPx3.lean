-- Written by a program of this session over the translation (a variant of the printer, see wip/gen); Lean checks it.
import Derived.Test.YtmggkimmnekhcaaPx0
import Derived.Test.YtmggkimmnekhcaaPx1
import Derived.Test.YtmggkimmnekhcaaPx2
namespace Go.Proofs.Ytmggkimmnekhcaa.P
open Go.RowKit Go.Proofs.YtmggkimmnekhcaaW.PrintWords Go.Proofs.YtmggkimmnekhcaaW.PrintLast Go.Proofs.YtmggkimmnekhcaaW.PrintMore
attribute [local go_sem] Go.Proofs.Ytmggkimmnekhcaa.V.isSome_setCell max2_int min2_int max_two min_two max_three min_three max_four min_four
set_option linter.unusedVariables false
set_option linter.unusedSimpArgs false
/-! ### spec_l1Cur_yard: function 60 -/
mutual
def spec_l1Cur_yard.l0 : Nat → Int → List Int → Int → Int → List (List Int) → Option ((List (List Int)) × Int × Int)
 | 0, _, _, _, _, _ => none
 | k + 1, x4, x1000, x1001, x1002, x130000 => if x4 > 0 then (if x130000.length < 5864062014805 then (spec_l1Cur_yard.l0 k (wrap64 (x4 - 1)) x1000 x1001 x1002 (x130000 ++ [(([] : List Int))])) else (none)) else ((spec_l1Cur_pick.f x1000 x1001 x1002 8).bind fun bt139 => (spec_l1Cur_yard.l1 k (wrap64 (1 + bt139.1)) x1000 bt139.2.1 bt139.2.2 x130000))
def spec_l1Cur_yard.l1 : Nat → Int → List Int → Int → Int → List (List Int) → Option ((List (List Int)) × Int × Int)
 | 0, _, _, _, _, _ => none
 | k + 1, x5, x1000, x1001, x1002, x130000 => if x5 > 0 then ((spec_l1Cur_pick.f x1000 x1001 x1002 (x130000.length : Int)).bind fun bt142 => (if 0 ≤ bt142.1 then (if bt142.1 < (x130000.length : Int) then (if ((rd_L2 x130000 bt142.1).length : Int) < 4 then (if (rd_L2 x130000 bt142.1).length < 17592186044416 then (spec_l1Cur_yard.l1 k (wrap64 (x5 - 1)) x1000 bt142.2.1 bt142.2.2 (x130000.set (bt142.1 : Int).toNat ((rd_L2 x130000 bt142.1) ++ [x5]))) else (none)) else (spec_l1Cur_yard.l1 k (wrap64 (x5 - 1)) x1000 bt142.2.1 bt142.2.2 x130000)) else (none)) else (none))) else ((spec_l1Cur_pick.f x1000 x1001 x1002 4).bind fun bt151 => (spec_l1Cur_yard.l2 k bt151.1 x1000 bt151.2.1 bt151.2.2 x130000))
def spec_l1Cur_yard.l2 : Nat → Int → List Int → Int → Int → List (List Int) → Option ((List (List Int)) × Int × Int)
 | 0, _, _, _, _, _ => none
 | k + 1, x7, x1000, x1001, x1002, x130000 => if x7 > 0 then ((spec_l1Cur_pick.f x1000 x1001 x1002 (x130000.length : Int)).bind fun bt157 => ((spec_l1Cur_pick.f x1000 bt157.2.1 bt157.2.2 (x130000.length : Int)).bind fun bt160 => (if bt157.1 = bt160.1 then (spec_l1Cur_yard.l2 k (wrap64 (x7 - 1)) x1000 bt160.2.1 bt160.2.2 x130000) else (if 0 ≤ bt157.1 then (if bt157.1 < (x130000.length : Int) then (if ((rd_L2 x130000 bt157.1).length : Int) > 0 then (if 0 ≤ bt160.1 then (if bt160.1 < (x130000.length : Int) then (if ((rd_L2 x130000 bt160.1).length : Int) < 4 then ((spec_l5Move.f k x130000 bt157.1 bt160.1).bind fun t165 => (spec_l1Cur_yard.l2 k (wrap64 (x7 - 1)) x1000 bt160.2.1 bt160.2.2 t165)) else (spec_l1Cur_yard.l2 k (wrap64 (x7 - 1)) x1000 bt160.2.1 bt160.2.2 x130000)) else (none)) else (none)) else (spec_l1Cur_yard.l2 k (wrap64 (x7 - 1)) x1000 bt160.2.1 bt160.2.2 x130000)) else (none)) else (none))))) else ((spec_l5Own.f k x130000).bind fun t154 => (some (t154, x1001, x1002)))
end
def spec_l1Cur_yard.f (k : Nat) (s0_0 : List Int) (s0_1 : Int) (s0_2 : Int) : Option ((List (List Int)) × Int × Int) := (spec_l1Cur_pick.f s0_0 s0_1 s0_2 4).bind fun bt130 => (spec_l1Cur_yard.l0 k (wrap64 (1 + bt130.1)) s0_0 bt130.2.1 bt130.2.2 ([] : List (List Int)))
theorem spec_l1Cur_yard.mono_l : ∀ k, (∀ y0 y1 y2 y3 y4, LeO (spec_l1Cur_yard.l0 k y0 y1 y2 y3 y4) (spec_l1Cur_yard.l0 (k + 1) y0 y1 y2 y3 y4)) ∧ (∀ y0 y1 y2 y3 y4, LeO (spec_l1Cur_yard.l1 k y0 y1 y2 y3 y4) (spec_l1Cur_yard.l1 (k + 1) y0 y1 y2 y3 y4)) ∧ (∀ y0 y1 y2 y3 y4, LeO (spec_l1Cur_yard.l2 k y0 y1 y2 y3 y4) (spec_l1Cur_yard.l2 (k + 1) y0 y1 y2 y3 y4))
 | 0 => ⟨fun _ _ _ _ _ r h => by simp [spec_l1Cur_yard.l0] at h, fun _ _ _ _ _ r h => by simp [spec_l1Cur_yard.l1] at h, fun _ _ _ _ _ r h => by simp [spec_l1Cur_yard.l2] at h⟩
 | k + 1 => by
  obtain ⟨ih0, ih1, ih2⟩ := spec_l1Cur_yard.mono_l k
  refine ⟨?_, ?_, ?_⟩
  ·intro y0 y1 y2 y3 y4
   unfold spec_l1Cur_yard.l0
   repeat' first
   | (with_reducible exact ih0 _ _ _ _ _)
   | (with_reducible exact ih1 _ _ _ _ _)
   | (with_reducible exact ih2 _ _ _ _ _)
   | (with_reducible exact spec_l5Move.mono _ _ _ _)
   | (with_reducible exact spec_l5Own.mono _ _)
   | (with_reducible exact LeO.refl _)
   | (with_reducible exact LeO.none _)
   | (with_reducible refine LeO.ite ?_ ?_)
   | (with_reducible refine LeO.bind ?_ (fun _ => ?_))
   | exact ih0 _ _ _ _ _
   | exact ih1 _ _ _ _ _
   | exact ih2 _ _ _ _ _
   | exact spec_l5Move.mono _ _ _ _
   | exact spec_l5Own.mono _ _
   | exact LeO.none _
   | refine LeO.ite ?_ ?_
   | refine LeO.bind ?_ (fun _ => ?_)
  ·intro y0 y1 y2 y3 y4
   unfold spec_l1Cur_yard.l1
   repeat' first
   | (with_reducible exact ih0 _ _ _ _ _)
   | (with_reducible exact ih1 _ _ _ _ _)
   | (with_reducible exact ih2 _ _ _ _ _)
   | (with_reducible exact spec_l5Move.mono _ _ _ _)
   | (with_reducible exact spec_l5Own.mono _ _)
   | (with_reducible exact LeO.refl _)
   | (with_reducible exact LeO.none _)
   | (with_reducible refine LeO.ite ?_ ?_)
   | (with_reducible refine LeO.bind ?_ (fun _ => ?_))
   | exact ih0 _ _ _ _ _
   | exact ih1 _ _ _ _ _
   | exact ih2 _ _ _ _ _
   | exact spec_l5Move.mono _ _ _ _
   | exact spec_l5Own.mono _ _
   | exact LeO.none _
   | refine LeO.ite ?_ ?_
   | refine LeO.bind ?_ (fun _ => ?_)
  ·intro y0 y1 y2 y3 y4
   unfold spec_l1Cur_yard.l2
   repeat' first
   | (with_reducible exact ih0 _ _ _ _ _)
   | (with_reducible exact ih1 _ _ _ _ _)
   | (with_reducible exact ih2 _ _ _ _ _)
   | (with_reducible exact spec_l5Move.mono _ _ _ _)
   | (with_reducible exact spec_l5Own.mono _ _)
   | (with_reducible exact LeO.refl _)
   | (with_reducible exact LeO.none _)
   | (with_reducible refine LeO.ite ?_ ?_)
   | (with_reducible refine LeO.bind ?_ (fun _ => ?_))
   | exact ih0 _ _ _ _ _
   | exact ih1 _ _ _ _ _
   | exact ih2 _ _ _ _ _
   | exact spec_l5Move.mono _ _ _ _
   | exact spec_l5Own.mono _ _
   | exact LeO.none _
   | refine LeO.ite ?_ ?_
   | refine LeO.bind ?_ (fun _ => ?_)
theorem spec_l1Cur_yard.mono : ∀ a0 a1 a2 k, LeO (spec_l1Cur_yard.f k a0 a1 a2) (spec_l1Cur_yard.f (k + 1) a0 a1 a2) := by
 intro a0 a1 a2 k
 obtain ⟨ih0, ih1, ih2⟩ := spec_l1Cur_yard.mono_l k
 unfold spec_l1Cur_yard.f
 repeat' first
   | (with_reducible exact ih0 _ _ _ _ _)
   | (with_reducible exact ih1 _ _ _ _ _)
   | (with_reducible exact ih2 _ _ _ _ _)
   | (with_reducible exact spec_l5Move.mono _ _ _ _)
   | (with_reducible exact spec_l5Own.mono _ _)
   | (with_reducible exact LeO.refl _)
   | (with_reducible exact LeO.none _)
   | (with_reducible refine LeO.ite ?_ ?_)
   | (with_reducible refine LeO.bind ?_ (fun _ => ?_))
   | exact ih0 _ _ _ _ _
   | exact ih1 _ _ _ _ _
   | exact ih2 _ _ _ _ _
   | exact spec_l5Move.mono _ _ _ _
   | exact spec_l5Own.mono _ _
   | exact LeO.none _
   | refine LeO.ite ?_ ?_
   | refine LeO.bind ?_ (fun _ => ?_)
def spec_l1Cur_yard.T11 : Bool × List (List Nat × List Nat) := (true, [([], []), ([0], [0]), ([], []), ([], []), ([3], [3]), ([], []), ([4, 5], [4, 5]), ([6], [6]), ([], []), ([8], [8]), ([7, 9], [7, 9]), ([1, 2, 0, 1, 2, 3, 4, 5, 6, 7, 8, 9, 10], [1, 2]), ([11, 10, 10, 0, 1, 2, 3, 4, 5, 6, 7, 8, 9, 10], [10, 11])])
def spec_l1Cur_yard.B11 : List Nat := [0, 1, 0, 0, 8, 0, 56, 120, 0, 256, 1016, 2047, 4095]
theorem spec_l1Cur_yard.tab11 : rtab .any (opsOf Try.f60 11) = spec_l1Cur_yard.T11 := by kernel_rfl
theorem spec_l1Cur_yard.bits11 : waitsOk spec_l1Cur_yard.T11.2 spec_l1Cur_yard.B11 = true := by kernel_rfl
def spec_l1Cur_yard.T15 : Bool × List (List Nat × List Nat) := (true, [([], []), ([], []), ([1], [1]), ([2], [2]), ([0, 3], [0, 3]), ([], []), ([], []), ([6], [6]), ([7], [7]), ([5, 8, 4], [5, 8]), ([4, 9, 0, 1, 2, 3, 4], [4]), ([9, 10, 0, 1, 2, 3, 4, 5, 6, 7, 8, 9, 10], [9])])
def spec_l1Cur_yard.B15 : List Nat := [0, 0, 2, 6, 15, 0, 0, 64, 192, 511, 1023, 2047]
theorem spec_l1Cur_yard.tab15 : rtab .any (opsOf Try.f60 15) = spec_l1Cur_yard.T15 := by kernel_rfl
theorem spec_l1Cur_yard.bits15 : waitsOk spec_l1Cur_yard.T15.2 spec_l1Cur_yard.B15 = true := by kernel_rfl
set_option maxHeartbeats 8000000 in
set_option maxRecDepth 100000 in
theorem spec_l1Cur_yard.calls (k : Nat) (g : Nat) (s0_0 : List Int) (s0_1 : Int) (s0_2 : Int) (r1 : List (List Int)) (r2 : Int) (r3 : Int) (w0 w : World) (hI : IsS58 w0 w g s0_0 s0_1 s0_2) (hB : Below w0.heap.size w0 w) (h : spec_l1Cur_yard.f k s0_0 s0_1 s0_2 = some (r1, r2, r3)) :
  Calls Try.prog 60 #[.pointer (some ⟨g, 0, none⟩)] w fun e w' => ∃ v0_ : Value, e = .returned (.agg #[v0_]) ∧ Kd.S (Kd.slice 3 (Kd.int .i64)) 28 w' w.heap.size (fun _ => True) v0_ r1 ∧ IsS58 w0 w' g s0_0 r2 r3 ∧ Below w0.heap.size w0 w' ∧ KeepBut w w' g none := by
 have hu26 := Try.underlying26
 have HI0 := Aside0.mk hI
 have HK := Aside0.mk (KeepBut.refl w g none)
 have HL := Aside0.mk hB.size
 clear hI
 have HW0 := Aside0.mk hB.size
 have HB := Aside0.mk hB
 clear hB
 have H : ((spec_l1Cur_pick.f s0_0 s0_1 s0_2 4).bind fun bt130 => (spec_l1Cur_yard.l0 k (wrap64 (1 + bt130.1)) s0_0 bt130.2.1 bt130.2.2 ([] : List (List Int)))) = some (r1, r2, r3) := h
 clear h
 replace H := Option.bind_eq_some_iff.mp H
 obtain ⟨⟨t130, t131, t132⟩, A20, H⟩ := H
 replace H : (spec_l1Cur_yard.l0 k (wrap64 (1 + t130)) s0_0 t131 t132 ([] : List (List Int))) = some (r1, r2, r3) := H
 have A2 := Aside0.mk A20
 clear A20
 have H' := Aside0.mk H
 clear H
 go_enter Try.func60, Try.ntmps60
 go_wp2_with (first | ((with_reducible refine gate_dst (N := 2) rfl ?_); (try (refine gate_guard (by rfl) ?_; dsimp only)); refine box_event ?hg (N := 2) ?hd (cs := #[.slice none 0 0]) (t := 26) ?hr ?_; (case hd => rfl); (case hg => rfl); (case hr => first | (go_simp; done) | (go_simp; rfl)); intro gb128 hg w3 hbox hb; have n0_ := Aside0.mk (IsS58.below (by repeat (first | (with_reducible first | exact HI0.out | apply IsS58.alloc | apply IsS58.drewN | apply IsS58.drew | apply IsS58.set_1 | apply IsS58.set_2) | exact HI0.out)) hb); have n1_ := Aside0.mk (KeepBut.trans (by repeat (first | (with_reducible first | exact HK.out | apply KeepBut.set_ | apply keep_drewN | apply keep_drew | apply keep_alloc) | exact HK.out)) (KeepBut.of_below hb g none) (.inl rfl)); have n2_ := Aside0.mk (below_step (by repeat (first | (with_reducible first | exact HB.out | apply below_alloc | apply pw_below_drewN | apply below_drew1 | refine below_set ?_ (IsS58.ge HI0.out)) | exact HB.out)) hb); have n3_ := Aside0.mk (hbox); have n4_ := Aside0.mk ((by rw [hg]; exact (keep_size (w := w) (g := g) (row := none) (by repeat (first | (with_reducible first | exact HK.out | apply KeepBut.set_ | apply keep_drewN | apply keep_drew | apply keep_alloc) | exact HK.out))) : w.heap.size ≤ gb128)); have n5_ := Aside0.mk ((Nat.le_trans HW0.out (by rw [hg]; exact (keep_size (w := w) (g := g) (row := none) (by repeat (first | (with_reducible first | exact HK.out | apply KeepBut.set_ | apply keep_drewN | apply keep_drew | apply keep_alloc) | exact HK.out))) : w.heap.size ≤ gb128) : w0.heap.size ≤ gb128)); have n6_ := Aside0.mk ((by rw [hg]; exact Nat.ne_of_lt (IsS58.lt (show IsS58 w0 _ g s0_0 s0_1 s0_2 from by repeat (first | (with_reducible first | exact HI0.out | apply IsS58.alloc | apply IsS58.drewN | apply IsS58.drew | apply IsS58.set_1 | apply IsS58.set_2) | exact HI0.out))) : g ≠ gb128)); have n7_ := Aside0.mk ((by rw [hg]; exact Nat.ne_of_gt (IsS58.lt (show IsS58 w0 _ g s0_0 s0_1 s0_2 from by repeat (first | (with_reducible first | exact HI0.out | apply IsS58.alloc | apply IsS58.drewN | apply IsS58.drew | apply IsS58.set_1 | apply IsS58.set_2) | exact HI0.out))) : gb128 ≠ g)); clear HI0; clear HK; clear HB; have HI0 := n0_; have HK := n1_; have HB := n2_; have BK128 := n3_; have GW128 := n4_; have GE128 := n5_; have NB0_128 := n6_; have NB128_0 := n7_; clear n0_ n1_ n2_ n3_ n4_ n5_ n6_ n7_; clear hb hbox hg) | ((with_reducible refine gate_dst (N := 3) rfl ?_); (try (refine gate_guard (by rfl) ?_; dsimp only)); refine box_event ?hg (N := 3) ?hd (cs := #[.slice none 0 0]) (t := 26) ?hr ?_; (case hd => rfl); (case hg => rfl); (case hr => first | (go_simp; done) | (go_simp; rfl)); intro gb129 hg w4 hbox hb; have n0_ := Aside0.mk (IsS58.below (by repeat (first | (with_reducible first | exact HI0.out | apply IsS58.alloc | apply IsS58.drewN | apply IsS58.drew | apply IsS58.set_1 | apply IsS58.set_2 | refine IsS58.far ?_ NB0_128.out _) | exact HI0.out)) hb); have n1_ := Aside0.mk (blk_below (g := gb128) (o := .cells #[.slice none 0 0] 26 (0, 0)) (bkl BK128) hb); have n2_ := Aside0.mk (KeepBut.trans (by repeat (first | (with_reducible first | exact HK.out | apply KeepBut.set_ | apply keep_drewN | apply keep_drew | apply keep_alloc | refine keep_far ?_ GW128.out _) | exact HK.out)) (KeepBut.of_below hb g none) (.inl rfl)); have n3_ := Aside0.mk (below_step (by repeat (first | (with_reducible first | exact HB.out | apply below_alloc | apply pw_below_drewN | apply below_drew1 | refine below_set ?_ (IsS58.ge HI0.out) | refine below_set ?_ GE128.out) | exact HB.out)) hb); have n4_ := Aside0.mk (hbox); have n5_ := Aside0.mk ((by rw [hg]; exact (keep_size (w := w) (g := g) (row := none) (by repeat (first | (with_reducible first | exact HK.out | apply KeepBut.set_ | apply keep_drewN | apply keep_drew | apply keep_alloc | refine keep_far ?_ GW128.out _) | exact HK.out))) : w.heap.size ≤ gb129)); have n6_ := Aside0.mk ((Nat.le_trans HW0.out (by rw [hg]; exact (keep_size (w := w) (g := g) (row := none) (by repeat (first | (with_reducible first | exact HK.out | apply KeepBut.set_ | apply keep_drewN | apply keep_drew | apply keep_alloc | refine keep_far ?_ GW128.out _) | exact HK.out))) : w.heap.size ≤ gb129) : w0.heap.size ≤ gb129)); have n7_ := Aside0.mk ((by rw [hg]; exact Nat.ne_of_lt (blk_lt (g := gb128) (o := .cells #[.slice none 0 0] 26 (0, 0)) (bkl BK128)) : gb128 ≠ gb129)); have n8_ := Aside0.mk ((by rw [hg]; exact Nat.ne_of_gt (blk_lt (g := gb128) (o := .cells #[.slice none 0 0] 26 (0, 0)) (bkl BK128)) : gb129 ≠ gb128)); have n9_ := Aside0.mk ((by rw [hg]; exact Nat.ne_of_lt (IsS58.lt (show IsS58 w0 _ g s0_0 s0_1 s0_2 from by repeat (first | (with_reducible first | exact HI0.out | apply IsS58.alloc | apply IsS58.drewN | apply IsS58.drew | apply IsS58.set_1 | apply IsS58.set_2 | refine IsS58.far ?_ NB0_128.out _) | exact HI0.out))) : g ≠ gb129)); have n10_ := Aside0.mk ((by rw [hg]; exact Nat.ne_of_gt (IsS58.lt (show IsS58 w0 _ g s0_0 s0_1 s0_2 from by repeat (first | (with_reducible first | exact HI0.out | apply IsS58.alloc | apply IsS58.drewN | apply IsS58.drew | apply IsS58.set_1 | apply IsS58.set_2 | refine IsS58.far ?_ NB0_128.out _) | exact HI0.out))) : gb129 ≠ g)); clear HI0; clear BK128; clear HK; clear HB; have HI0 := n0_; have BK128 := n1_; have HK := n2_; have HB := n3_; have BK129 := n4_; have GW129 := n5_; have GE129 := n6_; have NB128_129 := n7_; have NB129_128 := n8_; have NB0_129 := n9_; have NB129_0 := n10_; clear n0_ n1_ n2_ n3_ n4_ n5_ n6_ n7_ n8_ n9_ n10_; clear hb hbox hg; have hnb5 := NB129_128.out; have hnc5 := NB128_129.out; have hnb6 := NB129_0.out; have hnc6 := NB0_129.out; have hcz7_0 : w4.cell? ⟨gb129, 0, none⟩ = some (.slice none 0 0) := (blk_cell BK129.out 0).trans rfl; have hfz7_0 := blk_frozen BK129.out 0) | ((with_reducible refine gate_callee (f := 44) rfl ?_); refine goesL_ (some 12) rfl rfl Try.func44 (by kernel_rfl) rfl #[.pointer (some ⟨g, 0, none⟩), .int .i64 4] rfl gmp ?_; (with_reducible refine (spec_l1Cur_pick.calls g s0_0 s0_1 s0_2 4 t130 t131 t132 w0 _ ?side1 ?side2 A2.out).mono ?_); (case side1 => repeat (first | (with_reducible first | exact HI0.out | apply IsS58.alloc | apply IsS58.drewN | apply IsS58.drew | apply IsS58.set_1 | apply IsS58.set_2 | refine IsS58.far ?_ NB0_128.out _ | refine IsS58.far ?_ NB0_129.out _) | exact HI0.out)); (case side2 => repeat (first | (with_reducible first | exact HB.out | apply below_alloc | apply pw_below_drewN | apply below_drew1 | refine below_set ?_ (IsS58.ge HI0.out) | refine below_set ?_ GE128.out | refine below_set ?_ GE129.out) | exact HB.out)); rintro e w8 ⟨rfl, hi, hb, hk⟩; refine ⟨_, rfl, ?_⟩; have n0_ := Aside0.mk (KeepBut.blk hk (g' := gb128) (o := .cells #[.slice none 0 0] 26 (0, 0)) (by (with_reducible repeat (first | refine blk_drewN ?_ _ | refine blk_drew ?_ | refine blk_alloc ?_ _)); refine blk_far ?_ NB128_129.out _; (with_reducible repeat (first | refine blk_drewN ?_ _ | refine blk_drew ?_ | refine blk_alloc ?_ _)); exact BK128.out) NB128_0.out (by simp)); have n1_ := Aside0.mk (KeepBut.blk hk (g' := gb129) (o := .cells #[.slice none 0 0] 26 (0, 0)) (by (with_reducible repeat (first | refine blk_drewN ?_ _ | refine blk_drew ?_ | refine blk_alloc ?_ _)); refine blk_put (cs := #[.slice none 0 0]) ?_ 0 _ rfl; (with_reducible repeat (first | refine blk_drewN ?_ _ | refine blk_drew ?_ | refine blk_alloc ?_ _)); exact BK129.out) NB129_0.out (by simp)); have n2_ := Aside0.mk (KeepBut.trans (by repeat (first | (with_reducible first | exact HK.out | apply KeepBut.set_ | apply keep_drewN | apply keep_drew | apply keep_alloc | refine keep_far ?_ GW128.out _ | refine keep_far ?_ GW129.out _) | exact HK.out)) hk (.inl rfl)); have n3_ := Aside0.mk (hb); have n4_ := Aside0.mk (hi); clear BK128; clear BK129; clear HK; clear HB; clear HI0; have BK128 := n0_; have BK129 := n1_; have HK := n2_; have HB := n3_; have HI0 := n4_; clear n0_ n1_ n2_ n3_ n4_; (try clear hb); (try clear hb2); (try clear hk); (try clear hi)))
 go_loopg [4] k (fun kq v4 w' => ∃ (x4_1 : Int) (x130000_1 : List (List Int)) (u130000 : Value), v4 = .int .i64 x4_1 ∧ Aside0 (spec_l1Cur_yard.l0 kq x4_1 s0_0 t131 t132 x130000_1 = some (r1, r2, r3)) ∧ Aside0 (kq ≤ k) ∧ Aside0 (Kd.S (Kd.slice 3 (Kd.int .i64)) 28 w' w.heap.size (fun _ => True) u130000 x130000_1) ∧ Aside0 (w'.heap[gb128]? = some (.cells #[(.slice none 0 0)] 26 (0, 0))) ∧ Aside0 (w'.heap[gb129]? = some (.cells #[u130000] 26 (0, 0))) ∧ Aside0 (IsS58 w0 w' g s0_0 t131 t132) ∧ Aside0 (KeepBut w w' g none) ∧ Aside0 (Below w0.heap.size w0 w'))
 case atStart => exact ⟨(wrap64 (1 + t130)), (([] : List (List Int))), (.slice none 0 0), (by first | rfl | (simp; done) | (simp [*]; done)), H', ⟨Nat.le_refl _⟩, ⟨by first | exact Kd.S_nil _ _ _ _ _ | exact Kd.N_nil _ _ _ _ _ | exact Kd.V_nil _ _ _ _ _ | exact Kd.Q_nil _ _ _ _ _ | exact Kd.R_nil _ _ _ _ _⟩, ⟨bkl BK128⟩, ⟨bkl BK129⟩, ⟨by repeat (first | (with_reducible first | exact HI0.out | apply IsS58.alloc | apply IsS58.drewN | apply IsS58.drew | apply IsS58.set_1 | apply IsS58.set_2 | refine IsS58.far ?_ NB0_128.out _ | refine IsS58.far ?_ NB0_129.out _) | exact HI0.out)⟩, ⟨by repeat (first | (with_reducible first | exact HK.out | apply KeepBut.set_ | apply keep_drewN | apply keep_drew | apply keep_alloc | refine keep_far ?_ GW128.out _ | refine keep_far ?_ GW129.out _) | exact HK.out)⟩, ⟨by repeat (first | (with_reducible first | exact HB.out | apply below_alloc | apply pw_below_drewN | apply below_drew1 | refine below_set ?_ (IsS58.ge HI0.out) | refine below_set ?_ GE128.out | refine below_set ?_ GE129.out) | exact HB.out)⟩⟩
 clear H'
 try clear p2
 try clear c4
 try clear c5
 try clear c6
 try clear p6
 try clear hcz7_0
 try clear hfz7_0
 obtain ⟨x4_1, x130000_1, u130000, rfl, HA, HK1, HO_130000, BK128, BK129, HI0, HK, HB⟩ := hrel
 cases gk with
 | zero => exact absurd HA.out (by simp [spec_l1Cur_yard.l0])
 | succ k1 =>
  have H := HA.out
  clear HA
  simp only [spec_l1Cur_yard.l0] at H
  by_cases c9 : x4_1 > 0
  ·rw [if_pos c9] at H
   have c9b0 : decide (0 < x4_1) = true := decide_eq_true c9
   clear c9
   obtain ⟨y133, hy133⟩ : ∃ y_ : List Int, y_ = (([] : List Int)) := ⟨_, rfl⟩
   replace H : (if x130000_1.length < 5864062014805 then (spec_l1Cur_yard.l0 k1 (wrap64 (x4_1 - 1)) s0_0 t131 t132 (x130000_1 ++ [y133])) else (none)) = some (r1, r2, r3) := by first | (rw [hy133]; with_reducible exact H) | (have H2_ := (Option.bind_some _ _).symm.trans H; rw [hy133]; with_reducible exact H2_) | (have H2_ := (Option.bind_some _ _).symm.trans H; with_reducible exact H2_) | with_reducible exact H | (rw [hy133]; exact H) | exact H
   have Ny133 := Aside0.mk hy133
   clear hy133
   by_cases c10 : x130000_1.length < 5864062014805
   rotate_left
   ·rw [if_neg c10] at H
    exact absurd H (by simp)
   rw [if_pos c10] at H
   have LMc10 := Aside0.mk c10
   clear c10
   obtain ⟨y136, hy136⟩ : ∃ y_ : List (List Int), y_ = (x130000_1 ++ [y133]) := ⟨_, rfl⟩
   replace H : (spec_l1Cur_yard.l0 k1 (wrap64 (x4_1 - 1)) s0_0 t131 t132 y136) = some (r1, r2, r3) := by first | (rw [hy136]; with_reducible exact H) | (have H2_ := (Option.bind_some _ _).symm.trans H; rw [hy136]; with_reducible exact H2_) | (have H2_ := (Option.bind_some _ _).symm.trans H; with_reducible exact H2_) | with_reducible exact H | (rw [hy136]; exact H) | exact H
   have Ny136 := Aside0.mk hy136
   clear hy136
   have H' := Aside0.mk H
   clear H
   have hnb11 := NB129_128.out
   have hnc11 := NB128_129.out
   have hnb12 := NB129_0.out
   have hnc12 := NB0_129.out
   have hcz13_0 : wr.cell? ⟨gb129, 0, none⟩ = some (u130000) := (blk_cell BK129.out 0).trans rfl
   have hfz13_0 := blk_frozen BK129.out 0
   go_wp2_with (first | ((with_reducible refine gate_dst (N := 20) rfl ?_); (try (refine gate_guard (by rfl) ?_; dsimp only)); refine Kd.R_lit (Kd.int .i64) _ 3 ?hg (N := 20) ?hd (xs := ([] : List Int)) (inner := []) (ok := fun _ => True) (okp := fun _ => True) ?hr ?hp (fun _ hk => hk) trivial (Below.refl _ _) (Nat.le_refl _) (by simp) ?_; (case hd => rfl); (case hg => rfl); (case hr => first | (go_simp; done) | (go_simp; rfl)); (case hp => exact (Reps.none _ _)); intro v134 w14 ho15 hb hg_ hnew_; clear hg_ hnew_; (first | rw [← Ny133.out] at ho15 | (simp only [Int.reduceToNat] at ho15; rw [← Ny133.out] at ho15)); have n0_ := Aside0.mk (Kd.S_elder' (sdl HO_130000) (Kd.R_base ho15) hb); have n1_ := Aside0.mk (Kd.R_lower ho15 (keep_size (w := w) (g := g) (row := none) (by repeat (first | (with_reducible first | exact HK.out | apply KeepBut.set_ | apply keep_drewN | apply keep_drew | apply keep_alloc | refine keep_far ?_ GW128.out _ | refine keep_far ?_ GW129.out _) | exact HK.out)))); have n2_ := Aside0.mk (blk_below (g := gb128) (o := .cells #[.slice none 0 0] 26 (0, 0)) (bkl BK128) hb); have n3_ := Aside0.mk (blk_below (g := gb129) (o := .cells #[u130000] 26 (0, 0)) (bkl BK129) hb); have n4_ := Aside0.mk (IsS58.below (by repeat (first | (with_reducible first | exact HI0.out | apply IsS58.alloc | apply IsS58.drewN | apply IsS58.drew | apply IsS58.set_1 | apply IsS58.set_2 | refine IsS58.far ?_ NB0_128.out _ | refine IsS58.far ?_ NB0_129.out _) | exact HI0.out)) hb); have n5_ := Aside0.mk (KeepBut.trans (by repeat (first | (with_reducible first | exact HK.out | apply KeepBut.set_ | apply keep_drewN | apply keep_drew | apply keep_alloc | refine keep_far ?_ GW128.out _ | refine keep_far ?_ GW129.out _) | exact HK.out)) (KeepBut.of_below hb g none) (.inl rfl)); have n6_ := Aside0.mk (below_step (by repeat (first | (with_reducible first | exact HB.out | apply below_alloc | apply pw_below_drewN | apply below_drew1 | refine below_set ?_ (IsS58.ge HI0.out) | refine below_set ?_ GE128.out | refine below_set ?_ GE129.out) | exact HB.out)) hb); clear HO_130000; clear BK128; clear BK129; clear HI0; clear HK; clear HB; have HO_130000 := n0_; have HO135 := n1_; have BK128 := n2_; have BK129 := n3_; have HI0 := n4_; have HK := n5_; have HB := n6_; clear n0_ n1_ n2_ n3_ n4_ n5_ n6_; clear hb ho15; obtain ⟨Ao17, co17, eo17⟩ := Kd.R_slice HO135.out; subst eo17) | ((with_reducible refine gate_builtin (b := .append) (xs := #[.tmp 19, .tmp 21]) rfl ?_); (try (refine gate_guard (by rfl) ?_; dsimp only)); at_builtin; refine Kd.S_append (Kd.slice 3 (Kd.int .i64)) w.heap.size rfl (.tmp 19) (.tmp 21) 24 28 (.slice none 0 0) 24 rfl Try.underlying24 info28 rfl (by decide) (by omega) u130000 x130000_1 y133 [.slice Ao17 y133.length co17] (fun _ => True) (fun k_ => some k_ = (.slice Ao17 y133.length co17 : Value).ownBlock) rfl rfl ?aP (fun k_ hk_ => ((Kd.R_mono (ok' := fun k_ => ((fun _ => True)) k_ ∧ some k_ ≠ (u130000 : Value).ownBlock) (Kd.R_apart' (HO135.out) (Kd.S_typed HO_130000.out) (by decide)) (fun k_ hk => ⟨trivial, hk.2⟩))).1 k_ hk_.symm) ?aF ?aO (Below.refl _ _) ?aS ?aL ?_; (case aP => exact Kd.M_row (Kd.R_mono (Kd.R_tight rfl (Kd.R_mono (ok' := fun k_ => ((fun _ => True)) k_ ∧ some k_ ≠ (u130000 : Value).ownBlock) (Kd.R_apart' (HO135.out) (Kd.S_typed HO_130000.out) (by decide)) (fun k_ hk => ⟨trivial, hk.2⟩))) (fun _ h_ => h_))); (case aF => exact (fun _ _ => trivial)); (case aO => exact (by (with_reducible repeat (first | apply Kd.S_alloc | apply Kd.S_drewN | apply Kd.S_drew)); exact Kd.S_mono HO_130000.out (fun k_ hk => ⟨trivial, fun e_ => hk.2 e_⟩))); (case aS => exact (keep_size (w := w) (g := g) (row := none) (by repeat (first | (with_reducible first | exact HK.out | apply KeepBut.set_ | apply keep_drewN | apply keep_drew | apply keep_alloc | refine keep_far ?_ GW128.out _ | refine keep_far ?_ GW129.out _) | exact HK.out)))); (case aL => have := LMc10.out; omega); intro v137 w16 ho hb hg hat; rw [← Ny136.out] at ho; have n0_ := Aside0.mk (blk_grown (g := gb128) (o := .cells #[.slice none 0 0] 26 (0, 0)) (bkl BK128) hg (Kd.S_ne HO_130000.out BK128.out (by decide))); have n1_ := Aside0.mk (blk_grown (g := gb129) (o := .cells #[u130000] 26 (0, 0)) (bkl BK129) hg (Kd.S_ne HO_130000.out BK129.out (by decide))); have n2_ := Aside0.mk (IsS58.grown (by repeat (first | (with_reducible first | exact HI0.out | apply IsS58.alloc | apply IsS58.drewN | apply IsS58.drew | apply IsS58.set_1 | apply IsS58.set_2 | refine IsS58.far ?_ NB0_128.out _ | refine IsS58.far ?_ NB0_129.out _) | exact HI0.out)) hg (IsS58.own_neS HI0.out HO_130000.out (by decide))); have n3_ := Aside0.mk (below_weaken (by repeat (first | (with_reducible first | exact HB.out | apply below_alloc | apply pw_below_drewN | apply below_drew1 | refine below_set ?_ (IsS58.ge HI0.out) | refine below_set ?_ GE128.out | refine below_set ?_ GE129.out) | exact HB.out)) HL.out hb); have n4_ := Aside0.mk (KeepBut.trans (by repeat (first | (with_reducible first | exact HK.out | apply KeepBut.set_ | apply keep_drewN | apply keep_drew | apply keep_alloc | refine keep_far ?_ GW128.out _ | refine keep_far ?_ GW129.out _) | exact HK.out)) (KeepBut.of_grown hg g) (Kd.S_base2 HO_130000.out)); have n5_ := Aside0.mk (ho); clear BK128; clear BK129; clear HI0; clear HB; clear HK; clear HO_130000; clear HO135; have BK128 := n0_; have BK129 := n1_; have HI0 := n2_; have HB := n3_; have HK := n4_; have HO138 := n5_; clear n0_ n1_ n2_ n3_ n4_ n5_; clear ho hb hg hat; obtain ⟨Ao18, co18, eo18⟩ := Kd.S_slice HO138.out; subst eo18; have hcz19_0 : w16.cell? ⟨gb129, 0, none⟩ = some (u130000) := (blk_cell BK129.out 0).trans rfl; have hfz19_0 := blk_frozen BK129.out 0))
   go_roundg k1
   case measure => have := HK1.out; omega
   case rel => exact ⟨(wrap64 (x4_1 - 1)), (y136), (.slice Ao18 y136.length co18), (by first | rfl | (simp; done) | (simp [*]; done)), H', ⟨by have := HK1.out; omega⟩, ⟨by (with_reducible repeat (first | apply Kd.S_alloc | apply Kd.S_drewN | apply Kd.S_drew)); exact Kd.S_mono (Kd.S_far (p := ⟨gb129, 0, none⟩) (Kd.S_types HO138.out BK129.out (by decide)) (fun _ hk => hk.2) (.slice Ao18 y136.length co18)) (fun _ hk => trivial)⟩, ⟨by (with_reducible repeat (first | refine blk_drewN ?_ _ | refine blk_drew ?_ | refine blk_alloc ?_ _)); refine blk_far ?_ NB128_129.out _; (with_reducible repeat (first | refine blk_drewN ?_ _ | refine blk_drew ?_ | refine blk_alloc ?_ _)); exact BK128.out⟩, ⟨by (with_reducible repeat (first | refine blk_drewN ?_ _ | refine blk_drew ?_ | refine blk_alloc ?_ _)); refine blk_put (cs := #[u130000]) ?_ 0 _ rfl; (with_reducible repeat (first | refine blk_drewN ?_ _ | refine blk_drew ?_ | refine blk_alloc ?_ _)); exact BK129.out⟩, ⟨by repeat (first | (with_reducible first | exact HI0.out | apply IsS58.alloc | apply IsS58.drewN | apply IsS58.drew | apply IsS58.set_1 | apply IsS58.set_2 | refine IsS58.far ?_ NB0_128.out _ | refine IsS58.far ?_ NB0_129.out _) | exact HI0.out)⟩, ⟨by repeat (first | (with_reducible first | exact HK.out | apply KeepBut.set_ | apply keep_drewN | apply keep_drew | apply keep_alloc | refine keep_far ?_ GW128.out _ | refine keep_far ?_ GW129.out _) | exact HK.out)⟩, ⟨by repeat (first | (with_reducible first | exact HB.out | apply below_alloc | apply pw_below_drewN | apply below_drew1 | refine below_set ?_ (IsS58.ge HI0.out) | refine below_set ?_ GE128.out | refine below_set ?_ GE129.out) | exact HB.out)⟩⟩
  rw [if_neg c9] at H
  have c9b0 : decide (0 < x4_1) = false := decide_eq_false c9
  clear c9
  replace H := Option.bind_eq_some_iff.mp H
  obtain ⟨⟨t139, t140, t141⟩, A200, H⟩ := H
  replace H : (spec_l1Cur_yard.l1 k1 (wrap64 (1 + t139)) s0_0 t140 t141 x130000_1) = some (r1, r2, r3) := H
  have A20 := Aside0.mk A200
  clear A200
  have H' := Aside0.mk H
  clear H
  go_wp2_with (first | ((with_reducible refine gate_callee (f := 44) rfl ?_); refine goesL_ (some 25) rfl rfl Try.func44 (by kernel_rfl) rfl #[.pointer (some ⟨g, 0, none⟩), .int .i64 8] rfl gmp ?_; (with_reducible refine (spec_l1Cur_pick.calls g s0_0 t131 t132 8 t139 t140 t141 w0 _ ?side1 ?side2 A20.out).mono ?_); (case side1 => repeat (first | (with_reducible first | exact HI0.out | apply IsS58.alloc | apply IsS58.drewN | apply IsS58.drew | apply IsS58.set_1 | apply IsS58.set_2 | refine IsS58.far ?_ NB0_128.out _ | refine IsS58.far ?_ NB0_129.out _) | exact HI0.out)); (case side2 => repeat (first | (with_reducible first | exact HB.out | apply below_alloc | apply pw_below_drewN | apply below_drew1 | refine below_set ?_ (IsS58.ge HI0.out) | refine below_set ?_ GE128.out | refine below_set ?_ GE129.out) | exact HB.out)); rintro e w21 ⟨rfl, hi, hb, hk⟩; refine ⟨_, rfl, ?_⟩; have n0_ := Aside0.mk (Kd.S_mono (Kd.S_keep (IsS58.apartS (show IsS58 w0 _ g s0_0 t131 t132 from by repeat (first | (with_reducible first | exact HI0.out | apply IsS58.alloc | apply IsS58.drewN | apply IsS58.drew | apply IsS58.set_1 | apply IsS58.set_2 | refine IsS58.far ?_ NB0_128.out _ | refine IsS58.far ?_ NB0_129.out _) | exact HI0.out)) (sdl HO_130000) (by decide)) hk (fun _ h => h.2)) (fun _ h => h.1)); have n1_ := Aside0.mk (KeepBut.blk hk (g' := gb128) (o := .cells #[.slice none 0 0] 26 (0, 0)) (bkl BK128) NB128_0.out (by simp)); have n2_ := Aside0.mk (KeepBut.blk hk (g' := gb129) (o := .cells #[u130000] 26 (0, 0)) (bkl BK129) NB129_0.out (by simp)); have n3_ := Aside0.mk (KeepBut.trans (by repeat (first | (with_reducible first | exact HK.out | apply KeepBut.set_ | apply keep_drewN | apply keep_drew | apply keep_alloc | refine keep_far ?_ GW128.out _ | refine keep_far ?_ GW129.out _) | exact HK.out)) hk (.inl rfl)); have n4_ := Aside0.mk (hb); have n5_ := Aside0.mk (hi); clear HO_130000; clear BK128; clear BK129; clear HK; clear HB; clear HI0; have HO_130000 := n0_; have BK128 := n1_; have BK129 := n2_; have HK := n3_; have HB := n4_; have HI0 := n5_; clear n0_ n1_ n2_ n3_ n4_ n5_; (try clear hb); (try clear hb2); (try clear hk); (try clear hi)))
  go_loopg [5] k1 (fun kq v5 w' => ∃ (x5_2 : Int) (x1001_2 : Int) (x1002_2 : Int) (x130000_2 : List (List Int)) (u130000 : Value), v5 = .int .i64 x5_2 ∧ Aside0 (spec_l1Cur_yard.l1 kq x5_2 s0_0 x1001_2 x1002_2 x130000_2 = some (r1, r2, r3)) ∧ Aside0 (kq ≤ k1) ∧ Aside0 (Kd.S (Kd.slice 3 (Kd.int .i64)) 28 w' w.heap.size (fun _ => True) u130000 x130000_2) ∧ Aside0 (w'.heap[gb128]? = some (.cells #[(.slice none 0 0)] 26 (0, 0))) ∧ Aside0 (w'.heap[gb129]? = some (.cells #[u130000] 26 (0, 0))) ∧ Aside0 (IsS58 w0 w' g s0_0 x1001_2 x1002_2) ∧ Aside0 (KeepBut w w' g none) ∧ Aside0 (Below w0.heap.size w0 w'))
  case atStart => exact ⟨(wrap64 (1 + t139)), (t140), (t141), (x130000_1), (u130000), (by first | rfl | (simp; done) | (simp [*]; done)), H', ⟨Nat.le_refl _⟩, ⟨sdl HO_130000⟩, ⟨bkl BK128⟩, ⟨bkl BK129⟩, ⟨by repeat (first | (with_reducible first | exact HI0.out | apply IsS58.alloc | apply IsS58.drewN | apply IsS58.drew | apply IsS58.set_1 | apply IsS58.set_2 | refine IsS58.far ?_ NB0_128.out _ | refine IsS58.far ?_ NB0_129.out _) | exact HI0.out)⟩, ⟨by repeat (first | (with_reducible first | exact HK.out | apply KeepBut.set_ | apply keep_drewN | apply keep_drew | apply keep_alloc | refine keep_far ?_ GW128.out _ | refine keep_far ?_ GW129.out _) | exact HK.out)⟩, ⟨by repeat (first | (with_reducible first | exact HB.out | apply below_alloc | apply pw_below_drewN | apply below_drew1 | refine below_set ?_ (IsS58.ge HI0.out) | refine below_set ?_ GE128.out | refine below_set ?_ GE129.out) | exact HB.out)⟩⟩
  clear H'
  try clear c1
  try clear p2
  try clear c4
  try clear c5
  try clear c6
  try clear p6
  try clear c9
  try clear c9b0
  try clear c10
  try clear c11
  try clear c12
  try clear hcz13_0
  try clear hcz19_0
  try clear hcz7_0
  try clear hfz13_0
  try clear hfz19_0
  try clear hfz7_0
  try clear p2
  try clear p6
  obtain ⟨x5_2, x1001_2, x1002_2, x130000_2, u130000, rfl, HA, HK2, HO_130000, BK128, BK129, HI0, HK, HB⟩ := hrel
  cases gk with
  | zero => exact absurd HA.out (by simp [spec_l1Cur_yard.l1])
  | succ k2 =>
   have H := HA.out
   clear HA
   simp only [spec_l1Cur_yard.l1] at H
   by_cases c22 : x5_2 > 0
   ·rw [if_pos c22] at H
    have c22b0 : decide (0 < x5_2) = true := decide_eq_true c22
    clear c22
    replace H := Option.bind_eq_some_iff.mp H
    obtain ⟨⟨t142, t143, t144⟩, A230, H⟩ := H
    replace H : (if 0 ≤ t142 then (if t142 < (x130000_2.length : Int) then (if ((rd_L2 x130000_2 t142).length : Int) < 4 then (if (rd_L2 x130000_2 t142).length < 17592186044416 then (spec_l1Cur_yard.l1 k2 (wrap64 (x5_2 - 1)) s0_0 t143 t144 (x130000_2.set (t142 : Int).toNat ((rd_L2 x130000_2 t142) ++ [x5_2]))) else (none)) else (spec_l1Cur_yard.l1 k2 (wrap64 (x5_2 - 1)) s0_0 t143 t144 x130000_2)) else (none)) else (none)) = some (r1, r2, r3) := H
    have A23 := Aside0.mk A230
    clear A230
    by_cases c24 : 0 ≤ t142
    rotate_left
    ·rw [if_neg c24] at H
     exact absurd H (by simp)
    rw [if_pos c24] at H
    have c24b0 : decide (0 ≤ t142) = true := decide_eq_true c24
    clear c24
    by_cases c25 : t142 < (x130000_2.length : Int)
    rotate_left
    ·rw [if_neg c25] at H
     exact absurd H (by simp)
    rw [if_pos c25] at H
    have c25b0 : decide (t142 < (x130000_2.length : Int)) = true := decide_eq_true c25
    clear c25
    by_cases c26 : ((rd_L2 x130000_2 t142).length : Int) < 4
    rotate_left
    ·rw [if_neg c26] at H
     have c26b0 : decide (((rd_L2 x130000_2 t142).length : Int) < 4) = false := decide_eq_false c26
     have c26b1 : decide ((rd_L2 x130000_2 t142).length < 4) = false := decide_eq_false (by omega)
     clear c26
     have H' := Aside0.mk H
     clear H
     have hnb41 := NB129_128.out
     have hnc41 := NB128_129.out
     have hnb42 := NB129_0.out
     have hnc42 := NB0_129.out
     have hcz43_0 : wr.cell? ⟨gb129, 0, none⟩ = some (u130000) := (blk_cell BK129.out 0).trans rfl
     have hfz43_0 := blk_frozen BK129.out 0
     obtain ⟨Ao44, co44, eo44⟩ := Kd.S_slice HO_130000.out
     subst eo44
     go_wp2_with (first | ((with_reducible refine gate_callee (f := 44) rfl ?_); refine goesL_ (some 35) rfl rfl Try.func44 (by kernel_rfl) rfl #[.pointer (some ⟨g, 0, none⟩), .int .i64 (x130000_2.length : Int)] rfl gmp ?_; (with_reducible refine (spec_l1Cur_pick.calls g s0_0 x1001_2 x1002_2 (x130000_2.length : Int) t142 t143 t144 w0 _ ?side1 ?side2 A23.out).mono ?_); (case side1 => repeat (first | (with_reducible first | exact HI0.out | apply IsS58.alloc | apply IsS58.drewN | apply IsS58.drew | apply IsS58.set_1 | apply IsS58.set_2 | refine IsS58.far ?_ NB0_128.out _ | refine IsS58.far ?_ NB0_129.out _) | exact HI0.out)); (case side2 => repeat (first | (with_reducible first | exact HB.out | apply below_alloc | apply pw_below_drewN | apply below_drew1 | refine below_set ?_ (IsS58.ge HI0.out) | refine below_set ?_ GE128.out | refine below_set ?_ GE129.out) | exact HB.out)); rintro e w45 ⟨rfl, hi, hb, hk⟩; refine ⟨_, rfl, ?_⟩; have n0_ := Aside0.mk (Kd.S_mono (Kd.S_keep (IsS58.apartS (show IsS58 w0 _ g s0_0 x1001_2 x1002_2 from by repeat (first | (with_reducible first | exact HI0.out | apply IsS58.alloc | apply IsS58.drewN | apply IsS58.drew | apply IsS58.set_1 | apply IsS58.set_2 | refine IsS58.far ?_ NB0_128.out _ | refine IsS58.far ?_ NB0_129.out _) | exact HI0.out)) (sdl HO_130000) (by decide)) hk (fun _ h => h.2)) (fun _ h => h.1)); have n1_ := Aside0.mk (KeepBut.blk hk (g' := gb128) (o := .cells #[.slice none 0 0] 26 (0, 0)) (bkl BK128) NB128_0.out (by simp)); have n2_ := Aside0.mk (KeepBut.blk hk (g' := gb129) (o := .cells #[.slice Ao44 x130000_2.length co44] 26 (0, 0)) (bkl BK129) NB129_0.out (by simp)); have n3_ := Aside0.mk (KeepBut.trans (by repeat (first | (with_reducible first | exact HK.out | apply KeepBut.set_ | apply keep_drewN | apply keep_drew | apply keep_alloc | refine keep_far ?_ GW128.out _ | refine keep_far ?_ GW129.out _) | exact HK.out)) hk (.inl rfl)); have n4_ := Aside0.mk (hb); have n5_ := Aside0.mk (hi); clear HO_130000; clear BK128; clear BK129; clear HK; clear HB; clear HI0; have HO_130000 := n0_; have BK128 := n1_; have BK129 := n2_; have HK := n3_; have HB := n4_; have HI0 := n5_; clear n0_ n1_ n2_ n3_ n4_ n5_; (try clear hb); (try clear hb2); (try clear hk); (try clear hi); have hcz46_0 : w45.cell? ⟨gb129, 0, none⟩ = some (.slice Ao44 x130000_2.length co44) := (blk_cell BK129.out 0).trans rfl; have hfz46_0 := blk_frozen BK129.out 0; have p145 : 0 ≤ (t142 : Int) := oda; have q145 : t142 < (x130000_2.length : Int) := oda; obtain ⟨ad145, A145_0, c145_0, e145, hx145_0, hl145_0, hi145_0⟩ := at_L2 (Kd.S_reads' HO_130000.out).2.2 t142 p145 q145; cases e145; obtain ⟨ce145, hce145, hMe145, hcc145⟩ := Kd.S_get HO_130000.out [] t142 p145 (by first | exact q145 | exact oda | (have e_ := (Kd.S_reads' HO_130000.out).1; omega)); obtain ⟨ve145_0, rfl, ge145_0⟩ := hMe145; have hv145_0 := hcc145 0 _ rfl; rw [Nat.add_zero, show ((Kd.slice 3 (Kd.int .i64))).sz = 1 from rfl, Nat.mul_one] at hv145_0; replace hv145_0 := Option.some.inj (hv145_0.symm.trans hx145_0); rw [hv145_0] at ge145_0; have HL145_0 := Aside0.mk (show Kd.R (Kd.int .i64) 3 _ _ _ _ (rd_L2 x130000_2 t142) from ge145_0); clear hv145_0 ge145_0; have HX145_0 := Aside0.mk hx145_0; clear hcc145 hce145; have HR145_0 := Aside0.mk hi145_0; have HC145_0 := Aside0.mk hl145_0; clear hi145_0 hl145_0; replace p145 := eq_true p145; replace q145 := eq_true q145))
     go_roundg k2
     case measure => have := HK1.out; have := HK2.out; omega
     case rel => exact ⟨(wrap64 (x5_2 - 1)), (t143), (t144), (x130000_2), (.slice (some ad145) x130000_2.length co44), (by first | rfl | (simp; done) | (simp [*]; done)), H', ⟨by have := HK1.out; have := HK2.out; omega⟩, ⟨sdl HO_130000⟩, ⟨bkl BK128⟩, ⟨bkl BK129⟩, ⟨by repeat (first | (with_reducible first | exact HI0.out | apply IsS58.alloc | apply IsS58.drewN | apply IsS58.drew | apply IsS58.set_1 | apply IsS58.set_2 | refine IsS58.far ?_ NB0_128.out _ | refine IsS58.far ?_ NB0_129.out _) | exact HI0.out)⟩, ⟨by repeat (first | (with_reducible first | exact HK.out | apply KeepBut.set_ | apply keep_drewN | apply keep_drew | apply keep_alloc | refine keep_far ?_ GW128.out _ | refine keep_far ?_ GW129.out _) | exact HK.out)⟩, ⟨by repeat (first | (with_reducible first | exact HB.out | apply below_alloc | apply pw_below_drewN | apply below_drew1 | refine below_set ?_ (IsS58.ge HI0.out) | refine below_set ?_ GE128.out | refine below_set ?_ GE129.out) | exact HB.out)⟩⟩
    rw [if_pos c26] at H
    have c26b0 : decide (((rd_L2 x130000_2 t142).length : Int) < 4) = true := decide_eq_true c26
    have c26b1 : decide ((rd_L2 x130000_2 t142).length < 4) = true := decide_eq_true (by omega)
    clear c26
    by_cases c27 : (rd_L2 x130000_2 t142).length < 17592186044416
    rotate_left
    ·rw [if_neg c27] at H
     exact absurd H (by simp)
    rw [if_pos c27] at H
    have LMc27 := Aside0.mk c27
    clear c27
    obtain ⟨y147, hy147⟩ : ∃ y_ : List Int, y_ = ((rd_L2 x130000_2 t142) ++ [x5_2]) := ⟨_, rfl⟩
    replace H : (spec_l1Cur_yard.l1 k2 (wrap64 (x5_2 - 1)) s0_0 t143 t144 (x130000_2.set (t142 : Int).toNat y147)) = some (r1, r2, r3) := by first | (rw [hy147]; with_reducible exact H) | (have H2_ := (Option.bind_some _ _).symm.trans H; rw [hy147]; with_reducible exact H2_) | (have H2_ := (Option.bind_some _ _).symm.trans H; with_reducible exact H2_) | with_reducible exact H | (rw [hy147]; exact H) | exact H
    have Ny147 := Aside0.mk hy147
    clear hy147
    obtain ⟨y150, hy150⟩ : ∃ y_ : List (List Int), y_ = (x130000_2.set (t142 : Int).toNat y147) := ⟨_, rfl⟩
    replace H : (spec_l1Cur_yard.l1 k2 (wrap64 (x5_2 - 1)) s0_0 t143 t144 y150) = some (r1, r2, r3) := by first | (rw [hy150]; with_reducible exact H) | (have H2_ := (Option.bind_some _ _).symm.trans H; rw [hy150]; with_reducible exact H2_) | (have H2_ := (Option.bind_some _ _).symm.trans H; with_reducible exact H2_) | with_reducible exact H | (rw [hy150]; exact H) | exact H
    have Ny150 := Aside0.mk hy150
    clear hy150
    have H' := Aside0.mk H
    clear H
    have hnb29 := NB129_128.out
    have hnc29 := NB128_129.out
    have hnb30 := NB129_0.out
    have hnc30 := NB0_129.out
    have hcz31_0 : wr.cell? ⟨gb129, 0, none⟩ = some (u130000) := (blk_cell BK129.out 0).trans rfl
    have hfz31_0 := blk_frozen BK129.out 0
    obtain ⟨Ao32, co32, eo32⟩ := Kd.S_slice HO_130000.out
    subst eo32
    try go_wp2_with (first | ((with_reducible refine gate_callee (f := 44) rfl ?_); refine goesL_ (some 35) rfl rfl Try.func44 (by kernel_rfl) rfl #[.pointer (some ⟨g, 0, none⟩), .int .i64 (x130000_2.length : Int)] rfl gmp ?_; (with_reducible refine (spec_l1Cur_pick.calls g s0_0 x1001_2 x1002_2 (x130000_2.length : Int) t142 t143 t144 w0 _ ?side1 ?side2 A23.out).mono ?_); (case side1 => repeat (first | (with_reducible first | exact HI0.out | apply IsS58.alloc | apply IsS58.drewN | apply IsS58.drew | apply IsS58.set_1 | apply IsS58.set_2 | refine IsS58.far ?_ NB0_128.out _ | refine IsS58.far ?_ NB0_129.out _) | exact HI0.out)); (case side2 => repeat (first | (with_reducible first | exact HB.out | apply below_alloc | apply pw_below_drewN | apply below_drew1 | refine below_set ?_ (IsS58.ge HI0.out) | refine below_set ?_ GE128.out | refine below_set ?_ GE129.out) | exact HB.out)); rintro e w33 ⟨rfl, hi, hb, hk⟩; refine ⟨_, rfl, ?_⟩; have n0_ := Aside0.mk (Kd.S_mono (Kd.S_keep (IsS58.apartS (show IsS58 w0 _ g s0_0 x1001_2 x1002_2 from by repeat (first | (with_reducible first | exact HI0.out | apply IsS58.alloc | apply IsS58.drewN | apply IsS58.drew | apply IsS58.set_1 | apply IsS58.set_2 | refine IsS58.far ?_ NB0_128.out _ | refine IsS58.far ?_ NB0_129.out _) | exact HI0.out)) (sdl HO_130000) (by decide)) hk (fun _ h => h.2)) (fun _ h => h.1)); have n1_ := Aside0.mk (KeepBut.blk hk (g' := gb128) (o := .cells #[.slice none 0 0] 26 (0, 0)) (bkl BK128) NB128_0.out (by simp)); have n2_ := Aside0.mk (KeepBut.blk hk (g' := gb129) (o := .cells #[.slice Ao32 x130000_2.length co32] 26 (0, 0)) (bkl BK129) NB129_0.out (by simp)); have n3_ := Aside0.mk (KeepBut.trans (by repeat (first | (with_reducible first | exact HK.out | apply KeepBut.set_ | apply keep_drewN | apply keep_drew | apply keep_alloc | refine keep_far ?_ GW128.out _ | refine keep_far ?_ GW129.out _) | exact HK.out)) hk (.inl rfl)); have n4_ := Aside0.mk (hb); have n5_ := Aside0.mk (hi); clear HO_130000; clear BK128; clear BK129; clear HK; clear HB; clear HI0; have HO_130000 := n0_; have BK128 := n1_; have BK129 := n2_; have HK := n3_; have HB := n4_; have HI0 := n5_; clear n0_ n1_ n2_ n3_ n4_ n5_; (try clear hb); (try clear hb2); (try clear hk); (try clear hi); have hcz34_0 : w33.cell? ⟨gb129, 0, none⟩ = some (.slice Ao32 x130000_2.length co32) := (blk_cell BK129.out 0).trans rfl; have hfz34_0 := blk_frozen BK129.out 0; have p145 : 0 ≤ (t142 : Int) := oda; have q145 : t142 < (x130000_2.length : Int) := oda; obtain ⟨ad145, A145_0, c145_0, e145, hx145_0, hl145_0, hi145_0⟩ := at_L2 (Kd.S_reads' HO_130000.out).2.2 t142 p145 q145; cases e145; obtain ⟨ce145, hce145, hMe145, hcc145⟩ := Kd.S_get HO_130000.out [] t142 p145 (by first | exact q145 | exact oda | (have e_ := (Kd.S_reads' HO_130000.out).1; omega)); obtain ⟨ve145_0, rfl, ge145_0⟩ := hMe145; have hv145_0 := hcc145 0 _ rfl; rw [Nat.add_zero, show ((Kd.slice 3 (Kd.int .i64))).sz = 1 from rfl, Nat.mul_one] at hv145_0; replace hv145_0 := Option.some.inj (hv145_0.symm.trans hx145_0); rw [hv145_0] at ge145_0; have HL145_0 := Aside0.mk (show Kd.R (Kd.int .i64) 3 _ _ _ _ (rd_L2 x130000_2 t142) from ge145_0); clear hv145_0 ge145_0; have HX145_0 := Aside0.mk hx145_0; clear hcc145 hce145; have HR145_0 := Aside0.mk hi145_0; have HC145_0 := Aside0.mk hl145_0; clear hi145_0 hl145_0; replace p145 := eq_true p145; replace q145 := eq_true q145))
    have n0_ := Aside0.mk (Kd.S_drew HO_130000.out)
    have n1_ := Aside0.mk (Kd.R_drew HL145_0.out)
    have n2_ := Aside0.mk (blk_drew BK128.out)
    have n3_ := Aside0.mk (blk_drew BK129.out)
    have n4_ := Aside0.mk (Kd.C_drew HR145_0.out)
    have n5_ := Aside0.mk (IsS58.drew HI0.out)
    have n6_ := Aside0.mk (keep_drew HK.out)
    have n7_ := Aside0.mk (below_drew1 HB.out)
    clear HO_130000 HL145_0 BK128 BK129 HR145_0 HI0 HK HB
    have HO_130000 := n0_
    have HL145_0 := n1_
    have BK128 := n2_
    have BK129 := n3_
    have HR145_0 := n4_
    have HI0 := n5_
    have HK := n6_
    have HB := n7_
    clear n0_ n1_ n2_ n3_ n4_ n5_ n6_ n7_
    have p146 : 0 ≤ (t142 : Int) := oda
    have q146 : t142 < (x130000_2.length : Int) := oda
    obtain ⟨ad146, A146_0, c146_0, e146, hx146_0, hl146_0, hi146_0⟩ := at_L2 (Kd.S_reads' HO_130000.out).2.2 t142 p146 q146
    obtain rfl : ad145 = ad146 := (by injection e146)
    obtain ⟨ce146, hce146, hMe146, hcc146⟩ := Kd.S_get HO_130000.out [] t142 p146 (by first | exact q146 | exact oda | (have e_ := (Kd.S_reads' HO_130000.out).1; omega))
    obtain ⟨ve146_0, rfl, ge146_0⟩ := hMe146
    have hv146_0 := hcc146 0 _ rfl
    rw [Nat.add_zero, show ((Kd.slice 3 (Kd.int .i64))).sz = 1 from rfl, Nat.mul_one] at hv146_0
    replace hv146_0 := Option.some.inj (hv146_0.symm.trans hx146_0)
    rw [hv146_0] at ge146_0
    have HL146_0 := Aside0.mk (show Kd.R (Kd.int .i64) 3 _ _ _ _ (rd_L2 x130000_2 t142) from ge146_0)
    clear hv146_0 ge146_0
    have HX146_0 := Aside0.mk hx146_0
    clear hcc146 hce146
    have HR146_0 := Aside0.mk hi146_0
    have HC146_0 := Aside0.mk hl146_0
    clear hi146_0 hl146_0
    replace p146 := eq_true p146
    replace q146 := eq_true q146
    obtain ⟨go36, co36, eo36, gb36, gl36, cl36, HG36⟩ := Kd.S_form HO_130000.out (by have h_ : (t142 : Int) < ((x130000_2.length : Int) : Int) := oda; have h2_ : 0 ≤ (t142 : Int) := (oda); omega)
    (first | cases eo36 | (injection eo36 with ea_ en_ ec_; (first | subst ea_ | (injection ea_ with ea_; subst ea_)); subst ec_; clear en_))
    have GB36 := Aside0.mk gb36
    have GG36 := Aside0.mk HG36
    clear gb36 gl36 HG36
    (first | simp only [add_plain] at hx145_0 | skip)
    (first | simp only [add_plain] at hx146_0 | skip)
    obtain ⟨oki36, ce36, hcl36, hM36, hcc36, _, _, hH36⟩ := Kd.S_elem HO_130000.out [] (t142 : Int) (oda) (by have h_ : (t142 : Int) < ((x130000_2.length : Int) : Int) := oda; first | exact h_ | (have e_ := (Kd.S_reads' HO_130000.out).1; omega) | simpa using h_)
    obtain ⟨ve36_0, rfl, ge36_0⟩ := hM36
    have hv36 := hcc36 0 _ rfl
    have hX36 := HX146_0.out
    (try simp only [add_plain] at hX36)
    (try simp only [Nat.add_zero] at hv36)
    (try rw [show ((Kd.slice 3 (Kd.int .i64))).sz = 1 from rfl, Nat.mul_one] at hv36)
    replace hv36 := Option.some.inj (hv36.symm.trans hX36)
    subst hv36
    clear hX36 hcc36 hcl36
    have UU36 := Aside0.mk (show Kd.R (Kd.int .i64) 3 _ w.heap.size oki36 (.slice A146_0 (rd_L2 x130000_2 t142).length c146_0) (rd_L2 x130000_2 t142) from ge36_0)
    have HH36 := Aside0.mk hH36
    have HN36 := Aside0.mk (Kd.S_reads' HO_130000.out).1
    clear hH36 ge36_0
    refine start_ (n := 13) (S := fun w' => w'.cell? ⟨gb129, 0, none⟩ = some (.slice (some ⟨go36, 0, none⟩) x130000_2.length co32) ∧ w'.cell? ⟨go36, (t142).toNat, none⟩ = some (.slice A146_0 (rd_L2 x130000_2 t142).length c146_0)) (ds := [12]) #[false, false, false, false, false, false, false, false, false, false, false, false, false] (by kernel_rfl) rfl rfl ⟨(blk_cell BK129.out 0).trans rfl, hx146_0⟩ (fun hHeld => ?_); refine with_tabW spec_l1Cur_yard.tab11 spec_l1Cur_yard.bits11 (fun HT_ HW_ => ?_)
    generalize w33.drew = w35 at HO_130000 HL145_0 BK128 BK129 HR145_0 HI0 HK HB GG36 HH36 HL146_0 HR146_0 HX146_0 UU36 hx145_0 hx146_0 hHeld ⊢
    refine pure_ (i := 0) (N := some 43) (v := ?_) (a' := ?_) #[true, false, false, false, false, false, false, false, false, false, false, false, false] rfl rfl (any_of HT_.out (by kernel_rfl)) (fun _ _ _ h => h) (Or.inl ⟨by rfl, ?_⟩) ?_ ?_
    rotate_left
    ·intro w'
     go_simp
     with_reducible rfl
    rotate_left
    ·simp only [putS]
     rfl
    refine pure_ (i := 2) (N := some 45) (v := ?_) (a' := ?_) #[true, false, true, false, false, false, false, false, false, false, false, false, false] rfl rfl (any_of HT_.out (by kernel_rfl)) (fun _ _ _ h => h) (Or.inl ⟨by rfl, ?_⟩) ?_ ?_
    rotate_left
    ·intro w'
     go_simp
     with_reducible rfl
    rotate_left
    ·simp only [putS]
     rfl
    refine pure_ (i := 3) (N := some 46) (v := ?_) (a' := ?_) #[true, false, true, true, false, false, false, false, false, false, false, false, false] rfl rfl (any_of HT_.out (by kernel_rfl)) (fun _ _ _ h => h) (Or.inl ⟨by rfl, ?_⟩) ?_ ?_
    rotate_left
    ·intro w'
     go_simp
     with_reducible rfl
    rotate_left
    ·simp only [putS]
     rfl
    refine pure_ (i := 5) (N := some 48) (v := ?_) (a' := ?_) #[true, false, true, true, false, true, false, false, false, false, false, false, false] rfl rfl (any_of HT_.out (by kernel_rfl)) (fun _ _ _ h => h) (Or.inl ⟨by rfl, ?_⟩) ?_ ?_
    rotate_left
    ·intro w'
     go_simp
     with_reducible rfl
    rotate_left
    ·simp only [putS]
     rfl
    refine pure_ (i := 8) (N := some 51) (v := ?_) (a' := ?_) #[true, false, true, true, false, true, false, false, true, false, false, false, false] rfl rfl (any_of HT_.out (by kernel_rfl)) (fun _ _ _ h => h) (Or.inl ⟨by rfl, ?_⟩) ?_ ?_
    rotate_left
    ·intro w'
     go_simp
     with_reducible rfl
    rotate_left
    ·simp only [putS]
     rfl
    refine take_ (i := 1) (N := some 44) (v := ?_) (a' := ?_) #[true, true, true, true, false, true, false, false, true, false, false, false, false] rfl rfl (take_ofW HT_.out HW_.out (by kernel_rfl)) (fun _ _ _ h => h) (Or.inl ⟨by rfl, ?_⟩) hHeld ?_ ?_
    rotate_left
    ·rintro w' ⟨s0, s1⟩
     go_simp
     with_reducible rfl
    rotate_left
    ·simp only [putS]
     rfl
    refine take_ (i := 4) (N := some 47) (v := ?_) (a' := ?_) #[true, true, true, true, true, true, false, false, true, false, false, false, false] rfl rfl (take_ofW HT_.out HW_.out (by kernel_rfl)) (fun _ _ _ h => h) (Or.inl ⟨by rfl, ?_⟩) hHeld ?_ ?_
    rotate_left
    ·rintro w' ⟨s0, s1⟩
     go_simp
     with_reducible rfl
    rotate_left
    ·simp only [putS]
     rfl
    refine pure_ (i := 6) (N := some 49) (v := ?_) (a' := ?_) #[true, true, true, true, true, true, true, false, true, false, false, false, false] rfl rfl (any_of HT_.out (by kernel_rfl)) (fun _ _ _ h => h) (Or.inl ⟨by rfl, ?_⟩) ?_ ?_
    rotate_left
    ·intro w'
     go_simp
     with_reducible rfl
    rotate_left
    ·simp only [putS]
     rfl
    refine take_ (i := 7) (N := some 50) (v := ?_) (a' := ?_) #[true, true, true, true, true, true, true, true, true, false, false, false, false] rfl rfl (take_ofW HT_.out HW_.out (by kernel_rfl)) (fun _ _ _ h => h) (Or.inl ⟨by rfl, ?_⟩) hHeld ?_ ?_
    rotate_left
    ·rintro w' ⟨s0, s1⟩
     go_simp
     with_reducible rfl
    rotate_left
    ·simp only [putS]
     rfl
    refine one_ (i := 9) (N := some 52) #[true, true, true, true, true, true, true, true, true, true, false, false, false] rfl rfl (one_of HT_.out (by kernel_rfl)) (by decide) (fun K hK => ?_)
    refine value_ (w1 := ?_) (v := ?_) (by rfl) rfl ?_ ?_
    rotate_left 2
    ·go_simp
     constructor
     ·rfl
     rfl
    refine hK.out _ _ ⟨(blk_cell (blk_alloc BK129.out _) 0).trans rfl, (World.cell?_alloc_lt _ _ _ (World.block_lt_of_cell? _ _ (hHeld.2))).trans (hHeld.2)⟩ (fun hHeld => ?_)
    clear hK K
    refine norm_ (a' := ?_) ?_ ?_
    rotate_left
    ·show Act.put _ (some 52) _ = _
     simp only [putS]
     rfl
    refine one_ (i := 10) (N := some 53) #[true, true, true, true, true, true, true, true, true, true, true, false, false] rfl rfl (one_of HT_.out (by kernel_rfl)) (by decide) (fun K hK => ?_)
    refine Kd.R_append_step (Kd.int .i64) w.heap.size (by rfl) (.tmp 50) (.tmp 52) 28 3 (.int .i64 0) 8 rfl Try.underlying28 info3 rfl (by decide) (by omega) (.slice A146_0 (rd_L2 x130000_2 t142).length c146_0) (rd_L2 x130000_2 t142) x5_2 [.int .i64 x5_2] (fun k_ => oki36 k_ ∨ ((fun _ => True)) k_ ∧ w35.heap.size ≤ k_) (fun _ => False) rfl rfl ?aP (fun _ hk => hk.elim) ?aF ?aO (Below.refl _ _) ?aS ?aL ?_
    (case aP => exact rfl)
    (case aF => exact (fun k_ hk => .inr ⟨trivial, hk⟩))
    (case aO => exact (by (with_reducible repeat (first | apply Kd.R_alloc | apply Kd.R_drewN | apply Kd.R_drew)); exact Kd.R_mono UU36.out (fun _ hk => .inl hk)))
    (case aS => exact (keep_size (w := w) (g := g) (row := none) (by repeat (first | (with_reducible first | exact HK.out | apply KeepBut.set_ | apply keep_drewN | apply keep_drew | apply keep_alloc | refine keep_far ?_ GW128.out _ | refine keep_far ?_ GW129.out _) | exact HK.out))))
    (case aL => have := LMc27.out; omega)
    intro v148 w37 ho hb hg hat
    (first | have HS1_ := cell_grown hg (hHeld.2) (by first | (rw [add_block]; exact (fun e_ => ((HL146_0.out.1 _ e_.symm).2) rfl)) | (show some (Addr.add _ _).block ≠ _; rw [add_block]; exact (fun e_ => ((HL146_0.out.1 _ e_.symm).2) rfl)) | exact (fun e_ => ((HL146_0.out.1 _ e_.symm).2) rfl)) | have HS1_ := cell_grown hg (cell_unalloc (hHeld.2) (by first | (rw [add_block]; exact Kd.S_lt HO_130000.out _ rfl) | (show (Addr.add _ _).block < _; rw [add_block]; exact Kd.S_lt HO_130000.out _ rfl) | exact Kd.S_lt HO_130000.out _ rfl)) (by first | (rw [add_block]; exact (fun e_ => ((HL146_0.out.1 _ e_.symm).2) rfl)) | (show some (Addr.add _ _).block ≠ _; rw [add_block]; exact (fun e_ => ((HL146_0.out.1 _ e_.symm).2) rfl)) | exact (fun e_ => ((HL146_0.out.1 _ e_.symm).2) rfl)))
    rw [← Ny147.out] at ho
    have n0_ := Aside0.mk (blk_grown (g := gb128) (o := .cells #[.slice none 0 0] 26 (0, 0)) (bkl BK128) hg (Kd.R_ne HL146_0.out BK128.out (by decide)))
    have n1_ := Aside0.mk (blk_grown (g := gb129) (o := .cells #[.slice (some ⟨go36, 0, none⟩) x130000_2.length co32] 26 (0, 0)) (bkl BK129) hg (Kd.R_ne HL146_0.out BK129.out (by decide)))
    have n2_ := Aside0.mk (IsS58.grown (by repeat (first | (with_reducible first | exact HI0.out | apply IsS58.alloc | apply IsS58.drewN | apply IsS58.drew | apply IsS58.set_1 | apply IsS58.set_2 | refine IsS58.far ?_ NB0_128.out _ | refine IsS58.far ?_ NB0_129.out _) | exact HI0.out)) hg (IsS58.own_ne HI0.out HL146_0.out (by decide)))
    have n3_ := Aside0.mk (below_weaken (by repeat (first | (with_reducible first | exact HB.out | apply below_alloc | apply pw_below_drewN | apply below_drew1 | refine below_set ?_ (IsS58.ge HI0.out) | refine below_set ?_ GE128.out | refine below_set ?_ GE129.out) | exact HB.out)) HL.out hb)
    have n4_ := Aside0.mk (KeepBut.trans (by repeat (first | (with_reducible first | exact HK.out | apply KeepBut.set_ | apply keep_drewN | apply keep_drew | apply keep_alloc | refine keep_far ?_ GW128.out _ | refine keep_far ?_ GW129.out _) | exact HK.out)) (KeepBut.of_grown hg g) (Kd.R_base2 HL146_0.out))
    have n5_ := Aside0.mk (Kd.H_grown (Kd.H_widen (by repeat (first | exact HH36.out | refine Kd.H_alloc ?_ _ | refine Kd.H_drewN ?_ _ | refine Kd.H_drew ?_))) hg (fun k_ e_ => .inl (UU36.out.1 k_ e_)))
    have n6_ := Aside0.mk (ho)
    clear BK128 BK129 HI0 HB HK HH36 HO_130000 UU36 HL145_0 HL146_0
    have BK128 := n0_
    have BK129 := n1_
    have HI0 := n2_
    have HB := n3_
    have HK := n4_
    have HH36 := n5_
    have HO149 := n6_
    clear n0_ n1_ n2_ n3_ n4_ n5_ n6_ ho hb hg hat
    have p28 : 0 ≤ (t142 : Int) := oda
    have q28 : (t142 : Int) < ((x130000_2.length : Int) : Int) := oda
    replace p28 := eq_true p28
    replace q28 := eq_true q28
    obtain ⟨Ao40, co40, eo40⟩ := Kd.R_slice HO149.out
    (first | subst eo40 | (injection eo40 with f1_ f2_ f3_; have f4_ := f1_.symm; have f5_ := f3_.symm; clear f1_ f2_ f3_; subst f4_; subst f5_))
    obtain ⟨_, _, hraw38, _, _, hcc38, _⟩ := Kd.H_raw HH36.out (oda) (by have h_ : (t142 : Int) < ((x130000_2.length : Int) : Int) := oda; first | exact h_ | (have e_ := (HN36.out); omega) | simpa using h_)
    obtain ⟨_, hfr38⟩ := Kd.H_at HH36.out (oda) (by have h_ : (t142 : Int) < ((x130000_2.length : Int) : Int) := oda; first | exact h_ | (have e_ := (HN36.out); omega) | simpa using h_)
    have hx38_0 := hcc38 0 _ rfl
    have hf38_0 := hfr38 0
    (try simp only [Nat.add_zero] at hx38_0 hf38_0)
    (try rw [show ((Kd.slice 3 (Kd.int .i64))).sz = 1 from rfl, Nat.mul_one] at hx38_0)
    (try rw [show ((Kd.slice 3 (Kd.int .i64))).sz = 1 from rfl, Nat.mul_one] at hf38_0)
    have HP38 := Kd.S_seg0 HH36.out (oda) (by have h_ : (t142 : Int) < ((x130000_2.length : Int) : Int) := oda; first | exact h_ | (have e_ := (HN36.out); omega) | simpa using h_) (seg := [.slice Ao40 y147.length co40]) (j := 0) (show 1 ≤ 1 from by decide) (x' := y147) (Kd.M_row HO149.out) (fun _ hk => hk)
    (try simp only [show ((Kd.slice 3 (Kd.int .i64))).sz = 1 from rfl, Nat.mul_one, Nat.add_zero] at HP38)
    clear hcc38 hfr38
    have HN0_go36 := Aside0.mk (show g ≠ go36 from by have h_ := IsS58.own_ne HI0.out hraw38 (by decide); intro e_; exact h_ (by rw [e_]; rfl))
    have HNB128_go36 := Aside0.mk (show gb128 ≠ go36 from by have h_ := Kd.R_ne hraw38 BK128.out (by decide); intro e_; exact h_ (by rw [e_]; rfl))
    have HNB129_go36 := Aside0.mk (show gb129 ≠ go36 from by have h_ := Kd.R_ne hraw38 BK129.out (by decide); intro e_; exact h_ (by rw [e_]; rfl))
    have HS38 := HP38.1
    rw [← Ny150.out] at HS38
    have HQ38 := Aside0.mk HS38
    obtain ⟨_, hgg38⟩ := Kd.R_typed hraw38 go36 rfl
    have GG38_ := Aside0.mk hgg38
    clear HP38 HS38 hgg38
    refine hK.out _ _ ⟨(blk_cell BK129.out 0).trans rfl, HS1_⟩ (fun hHeld => ?_)
    clear hK K
    refine norm_ (a' := ?_) ?_ ?_
    rotate_left
    ·show Act.put _ (some 53) _ = _
     simp only [putS]
     rfl
    refine pure_ (i := 11) (N := some 54) (v := ?_) (a' := ?_) #[true, true, true, true, true, true, true, true, true, true, true, true, false] rfl rfl (any_of HT_.out (by kernel_rfl)) (fun _ _ _ h => h) (Or.inl ⟨by rfl, ?_⟩) ?_ ?_
    rotate_left
    ·intro w'
     go_simp
     with_reducible rfl
    rotate_left
    ·simp only [putS]
     rfl
    refine last_ (i := 12) (N := none) #[true, true, true, true, true, true, true, true, true, true, true, true, true] rfl rfl (one_of HT_.out (by kernel_rfl)) (by decide) (fun K hK => ?_)
    refine skip_ (w1 := ?_) (by rfl) rfl ?_ ?_
    rotate_left
    ·go_simp
     rfl
    refine hK.out _ _ ?_
    clear hK K
    refine done_ (done_of HT_.out (by kernel_rfl)) ?_
    try go_wp2
    go_roundg k2
    case measure => have := HK1.out; have := HK2.out; omega
    case rel => exact ⟨(wrap64 (x5_2 - 1)), (t143), (t144), (y150), (.slice (some ⟨go36, 0, none⟩) x130000_2.length co32), (by first | rfl | (simp; done) | (simp [*]; done)), H', ⟨by have := HK1.out; have := HK2.out; omega⟩, ⟨sdl HQ38⟩, ⟨by (with_reducible repeat (first | refine blk_drewN ?_ _ | refine blk_drew ?_ | refine blk_alloc ?_ _)); refine blk_far ?_ HNB128_go36.out _; (with_reducible repeat (first | refine blk_drewN ?_ _ | refine blk_drew ?_ | refine blk_alloc ?_ _)); exact BK128.out⟩, ⟨by (with_reducible repeat (first | refine blk_drewN ?_ _ | refine blk_drew ?_ | refine blk_alloc ?_ _)); refine blk_far ?_ HNB129_go36.out _; (with_reducible repeat (first | refine blk_drewN ?_ _ | refine blk_drew ?_ | refine blk_alloc ?_ _)); exact BK129.out⟩, ⟨by repeat (first | (with_reducible first | exact HI0.out | apply IsS58.alloc | apply IsS58.drewN | apply IsS58.drew | apply IsS58.set_1 | apply IsS58.set_2 | refine IsS58.far ?_ HN0_go36.out _ | refine IsS58.far ?_ NB0_128.out _ | refine IsS58.far ?_ NB0_129.out _) | exact HI0.out)⟩, ⟨by repeat (first | (with_reducible first | exact HK.out | apply KeepBut.set_ | apply keep_drewN | apply keep_drew | apply keep_alloc | refine keep_far ?_ GB36.out _ | refine keep_far ?_ GW128.out _ | refine keep_far ?_ GW129.out _) | exact HK.out)⟩, ⟨by repeat (first | (with_reducible first | exact HB.out | apply below_alloc | apply pw_below_drewN | apply below_drew1 | refine below_set ?_ (Nat.le_trans HL.out GB36.out) | refine below_set ?_ (IsS58.ge HI0.out) | refine below_set ?_ GE128.out | refine below_set ?_ GE129.out) | exact HB.out)⟩⟩
   rw [if_neg c22] at H
   have c22b0 : decide (0 < x5_2) = false := decide_eq_false c22
   clear c22
   replace H := Option.bind_eq_some_iff.mp H
   obtain ⟨⟨t151, t152, t153⟩, A470, H⟩ := H
   replace H : (spec_l1Cur_yard.l2 k2 t151 s0_0 t152 t153 x130000_2) = some (r1, r2, r3) := H
   have A47 := Aside0.mk A470
   clear A470
   have H' := Aside0.mk H
   clear H
   go_wp2_with (first | ((with_reducible refine gate_callee (f := 44) rfl ?_); refine goesL_ (some 56) rfl rfl Try.func44 (by kernel_rfl) rfl #[.pointer (some ⟨g, 0, none⟩), .int .i64 4] rfl gmp ?_; (with_reducible refine (spec_l1Cur_pick.calls g s0_0 x1001_2 x1002_2 4 t151 t152 t153 w0 _ ?side1 ?side2 A47.out).mono ?_); (case side1 => repeat (first | (with_reducible first | exact HI0.out | apply IsS58.alloc | apply IsS58.drewN | apply IsS58.drew | apply IsS58.set_1 | apply IsS58.set_2 | refine IsS58.far ?_ NB0_128.out _ | refine IsS58.far ?_ NB0_129.out _) | exact HI0.out)); (case side2 => repeat (first | (with_reducible first | exact HB.out | apply below_alloc | apply pw_below_drewN | apply below_drew1 | refine below_set ?_ (IsS58.ge HI0.out) | refine below_set ?_ GE128.out | refine below_set ?_ GE129.out) | exact HB.out)); rintro e w48 ⟨rfl, hi, hb, hk⟩; refine ⟨_, rfl, ?_⟩; have n0_ := Aside0.mk (Kd.S_mono (Kd.S_keep (IsS58.apartS (show IsS58 w0 _ g s0_0 x1001_2 x1002_2 from by repeat (first | (with_reducible first | exact HI0.out | apply IsS58.alloc | apply IsS58.drewN | apply IsS58.drew | apply IsS58.set_1 | apply IsS58.set_2 | refine IsS58.far ?_ NB0_128.out _ | refine IsS58.far ?_ NB0_129.out _) | exact HI0.out)) (sdl HO_130000) (by decide)) hk (fun _ h => h.2)) (fun _ h => h.1)); have n1_ := Aside0.mk (KeepBut.blk hk (g' := gb128) (o := .cells #[.slice none 0 0] 26 (0, 0)) (bkl BK128) NB128_0.out (by simp)); have n2_ := Aside0.mk (KeepBut.blk hk (g' := gb129) (o := .cells #[u130000] 26 (0, 0)) (bkl BK129) NB129_0.out (by simp)); have n3_ := Aside0.mk (KeepBut.trans (by repeat (first | (with_reducible first | exact HK.out | apply KeepBut.set_ | apply keep_drewN | apply keep_drew | apply keep_alloc | refine keep_far ?_ GW128.out _ | refine keep_far ?_ GW129.out _) | exact HK.out)) hk (.inl rfl)); have n4_ := Aside0.mk (hb); have n5_ := Aside0.mk (hi); clear HO_130000; clear BK128; clear BK129; clear HK; clear HB; clear HI0; have HO_130000 := n0_; have BK128 := n1_; have BK129 := n2_; have HK := n3_; have HB := n4_; have HI0 := n5_; clear n0_ n1_ n2_ n3_ n4_ n5_; (try clear hb); (try clear hb2); (try clear hk); (try clear hi)))
   go_loopg [7] k2 (fun kq v7 w' => ∃ (x7_3 : Int) (x1001_3 : Int) (x1002_3 : Int) (x130000_3 : List (List Int)) (u130000 : Value), v7 = .int .i64 x7_3 ∧ Aside0 (spec_l1Cur_yard.l2 kq x7_3 s0_0 x1001_3 x1002_3 x130000_3 = some (r1, r2, r3)) ∧ Aside0 (kq ≤ k2) ∧ Aside0 (Kd.S (Kd.slice 3 (Kd.int .i64)) 28 w' w.heap.size (fun _ => True) u130000 x130000_3) ∧ Aside0 (w'.heap[gb128]? = some (.cells #[(.slice none 0 0)] 26 (0, 0))) ∧ Aside0 (w'.heap[gb129]? = some (.cells #[u130000] 26 (0, 0))) ∧ Aside0 (IsS58 w0 w' g s0_0 x1001_3 x1002_3) ∧ Aside0 (KeepBut w w' g none) ∧ Aside0 (Below w0.heap.size w0 w'))
   case atStart => exact ⟨(t151), (t152), (t153), (x130000_2), (u130000), (by first | rfl | (simp; done) | (simp [*]; done)), H', ⟨Nat.le_refl _⟩, ⟨sdl HO_130000⟩, ⟨bkl BK128⟩, ⟨bkl BK129⟩, ⟨by repeat (first | (with_reducible first | exact HI0.out | apply IsS58.alloc | apply IsS58.drewN | apply IsS58.drew | apply IsS58.set_1 | apply IsS58.set_2 | refine IsS58.far ?_ NB0_128.out _ | refine IsS58.far ?_ NB0_129.out _) | exact HI0.out)⟩, ⟨by repeat (first | (with_reducible first | exact HK.out | apply KeepBut.set_ | apply keep_drewN | apply keep_drew | apply keep_alloc | refine keep_far ?_ GW128.out _ | refine keep_far ?_ GW129.out _) | exact HK.out)⟩, ⟨by repeat (first | (with_reducible first | exact HB.out | apply below_alloc | apply pw_below_drewN | apply below_drew1 | refine below_set ?_ (IsS58.ge HI0.out) | refine below_set ?_ GE128.out | refine below_set ?_ GE129.out) | exact HB.out)⟩⟩
   clear H'
   try clear c1
   try clear p1
   try clear q1
   try clear hx1
   try clear c2
   try clear p2
   try clear q2
   try clear c3
   try clear hx3
   try clear hf3
   try clear c4
   try clear c5
   try clear c6
   try clear p6
   try clear c9
   try clear c9b0
   try clear c10
   try clear c11
   try clear c12
   try clear c14
   try clear p14
   try clear q14
   try clear hx14
   try clear c22
   try clear c22b0
   try clear c24
   try clear c24b0
   try clear c25
   try clear c25b0
   try clear c26
   try clear c26b0
   try clear c26b1
   try clear c27
   try clear p28
   try clear q28
   try clear c29
   try clear c30
   try clear c36
   try clear c38
   try clear hx38
   try clear hf38
   try clear c41
   try clear c42
   try clear c44
   try clear hcz13_0
   try clear hcz19_0
   try clear hcz31_0
   try clear hcz34_0
   try clear hcz43_0
   try clear hcz46_0
   try clear hcz7_0
   try clear hfz13_0
   try clear hfz19_0
   try clear hfz31_0
   try clear hfz34_0
   try clear hfz43_0
   try clear hfz46_0
   try clear hfz7_0
   try clear hx145_0
   try clear hx146_0
   try clear hx38_0
   try clear p145
   try clear p146
   try clear p2
   try clear p28
   try clear p6
   try clear q145
   try clear q146
   try clear q28
   obtain ⟨x7_3, x1001_3, x1002_3, x130000_3, u130000, rfl, HA, HK3, HO_130000, BK128, BK129, HI0, HK, HB⟩ := hrel
   cases gk with
   | zero => exact absurd HA.out (by simp [spec_l1Cur_yard.l2])
   | succ k3 =>
    have H := HA.out
    clear HA
    simp only [spec_l1Cur_yard.l2] at H
    by_cases c49 : x7_3 > 0
    rotate_left
    ·rw [if_neg c49] at H
     have c49b0 : decide (0 < x7_3) = false := decide_eq_false c49
     clear c49
     replace H := Option.bind_eq_some_iff.mp H
     obtain ⟨t154, A880, H⟩ := H
     replace H : (some (t154, x1001_3, x1002_3)) = some (r1, r2, r3) := H
     have A88 := Aside0.mk A880
     clear A880
     simp only [Option.some.injEq, Prod.mk.injEq] at H
     obtain ⟨rfl, rfl, rfl⟩ := H
     have hnb89 := NB129_128.out
     have hnc89 := NB128_129.out
     have hnb90 := NB129_0.out
     have hnc90 := NB0_129.out
     have hcz91_0 : wr.cell? ⟨gb129, 0, none⟩ = some (u130000) := (blk_cell BK129.out 0).trans rfl
     have hfz91_0 := blk_frozen BK129.out 0
     obtain ⟨Ao92, co92, eo92⟩ := Kd.S_slice HO_130000.out
     subst eo92
     go_wp2_with (first | ((with_reducible refine gate_callee (f := 51) rfl ?_); refine goesL_ (some 97) rfl rfl Try.func51 (by kernel_rfl) rfl #[.agg #[.slice Ao92 x130000_3.length co92]] rfl gmp ?_; (with_reducible refine (spec_l5Own.calls k3 _ _ x130000_3 t154 _ ?side1 ?side2 A88.out).mono ?_); (case side1 => exact cdl (Kd.S_reads' HO_130000.out).2.2); (case side2 => exact (Kd.S_reads' HO_130000.out).2.1); rintro e w93 ⟨v155, rfl, ho0, hb⟩; refine ⟨_, rfl, ?_⟩; have n0_ := Aside0.mk (Kd.S_elder' (sdl HO_130000) (Kd.S_base ho0) hb); have n1_ := Aside0.mk (Kd.S_lower (Kd.S_new' ho0 (Kd.S_lt (sdl HO_130000))) (keep_size (w := w) (g := g) (row := none) (by repeat (first | (with_reducible first | exact HK.out | apply KeepBut.set_ | apply keep_drewN | apply keep_drew | apply keep_alloc | refine keep_far ?_ GW128.out _ | refine keep_far ?_ GW129.out _) | exact HK.out)))); have n2_ := Aside0.mk (blk_below (g := gb128) (o := .cells #[.slice none 0 0] 26 (0, 0)) (bkl BK128) hb); have n3_ := Aside0.mk (blk_below (g := gb129) (o := .cells #[.slice Ao92 x130000_3.length co92] 26 (0, 0)) (bkl BK129) hb); have n4_ := Aside0.mk (IsS58.below (by repeat (first | (with_reducible first | exact HI0.out | apply IsS58.alloc | apply IsS58.drewN | apply IsS58.drew | apply IsS58.set_1 | apply IsS58.set_2 | refine IsS58.far ?_ NB0_128.out _ | refine IsS58.far ?_ NB0_129.out _) | exact HI0.out)) hb); have n5_ := Aside0.mk (KeepBut.trans (by repeat (first | (with_reducible first | exact HK.out | apply KeepBut.set_ | apply keep_drewN | apply keep_drew | apply keep_alloc | refine keep_far ?_ GW128.out _ | refine keep_far ?_ GW129.out _) | exact HK.out)) (KeepBut.of_below hb g none) (.inl rfl)); have n6_ := Aside0.mk (below_step (by repeat (first | (with_reducible first | exact HB.out | apply below_alloc | apply pw_below_drewN | apply below_drew1 | refine below_set ?_ (IsS58.ge HI0.out) | refine below_set ?_ GE128.out | refine below_set ?_ GE129.out) | exact HB.out)) hb); clear HO_130000; clear BK128; clear BK129; clear HI0; clear HK; clear HB; have HO_130000 := n0_; have HO156 := n1_; have BK128 := n2_; have BK129 := n3_; have HI0 := n4_; have HK := n5_; have HB := n6_; clear n0_ n1_ n2_ n3_ n4_ n5_ n6_; (try clear hb); (try clear hb2); (try clear hk); (try clear hi); (try clear ho0); obtain ⟨Ao94, co94, eo94⟩ := Kd.S_slice HO156.out; subst eo94; have hnb95 := NB128_0.out; have hnc95 := NB0_128.out; have hcz96_0 : w93.cell? ⟨gb128, 0, none⟩ = some (.slice none 0 0) := (blk_cell BK128.out 0).trans rfl; have hfz96_0 := blk_frozen BK128.out 0))
     refine bodyPost_ret (results_cell_row rfl _ _ gb128 26 #[.slice Ao94 t154.length co94] (0, 0) _ rfl (by (with_reducible repeat (first | refine blk_drewN ?_ _ | refine blk_drew ?_ | refine blk_alloc ?_ _)); refine blk_put (cs := #[.slice none 0 0]) ?_ 0 _ rfl; (with_reducible repeat (first | refine blk_drewN ?_ _ | refine blk_drew ?_ | refine blk_alloc ?_ _)); exact BK128.out) Try.underlying26 rfl (by kernel_rfl)) rfl ?_
     exact ⟨_, by first | rfl | (simp [errW_none, errW_some] <;> rfl) | (simp [*, errW_none, errW_some] <;> rfl), by (with_reducible repeat (first | apply Kd.S_alloc | apply Kd.S_drewN | apply Kd.S_drew)); exact Kd.S_mono (Kd.S_far (p := ⟨gb128, 0, none⟩) (Kd.S_types HO156.out BK128.out (by decide)) (fun _ hk => hk.2) (.slice Ao94 t154.length co94)) (fun _ hk => trivial), by repeat (first | (with_reducible first | exact HI0.out | apply IsS58.alloc | apply IsS58.drewN | apply IsS58.drew | apply IsS58.set_1 | apply IsS58.set_2 | refine IsS58.far ?_ NB0_128.out _ | refine IsS58.far ?_ NB0_129.out _) | exact HI0.out), by repeat (first | (with_reducible first | exact HB.out | apply below_alloc | apply pw_below_drewN | apply below_drew1 | refine below_set ?_ (IsS58.ge HI0.out) | refine below_set ?_ GE128.out | refine below_set ?_ GE129.out) | exact HB.out), by repeat (first | (with_reducible first | exact HK.out | apply KeepBut.set_ | apply keep_drewN | apply keep_drew | apply keep_alloc | refine keep_far ?_ GW128.out _ | refine keep_far ?_ GW129.out _) | exact HK.out)⟩
    rw [if_pos c49] at H
    have c49b0 : decide (0 < x7_3) = true := decide_eq_true c49
    clear c49
    replace H := Option.bind_eq_some_iff.mp H
    obtain ⟨⟨t157, t158, t159⟩, A500, H⟩ := H
    replace H : ((spec_l1Cur_pick.f s0_0 t158 t159 (x130000_3.length : Int)).bind fun bt160 => (if t157 = bt160.1 then (spec_l1Cur_yard.l2 k3 (wrap64 (x7_3 - 1)) s0_0 bt160.2.1 bt160.2.2 x130000_3) else (if 0 ≤ t157 then (if t157 < (x130000_3.length : Int) then (if ((rd_L2 x130000_3 t157).length : Int) > 0 then (if 0 ≤ bt160.1 then (if bt160.1 < (x130000_3.length : Int) then (if ((rd_L2 x130000_3 bt160.1).length : Int) < 4 then ((spec_l5Move.f k3 x130000_3 t157 bt160.1).bind fun t165 => (spec_l1Cur_yard.l2 k3 (wrap64 (x7_3 - 1)) s0_0 bt160.2.1 bt160.2.2 t165)) else (spec_l1Cur_yard.l2 k3 (wrap64 (x7_3 - 1)) s0_0 bt160.2.1 bt160.2.2 x130000_3)) else (none)) else (none)) else (spec_l1Cur_yard.l2 k3 (wrap64 (x7_3 - 1)) s0_0 bt160.2.1 bt160.2.2 x130000_3)) else (none)) else (none)))) = some (r1, r2, r3) := H
    have A50 := Aside0.mk A500
    clear A500
    replace H := Option.bind_eq_some_iff.mp H
    obtain ⟨⟨t160, t161, t162⟩, A510, H⟩ := H
    replace H : (if t157 = t160 then (spec_l1Cur_yard.l2 k3 (wrap64 (x7_3 - 1)) s0_0 t161 t162 x130000_3) else (if 0 ≤ t157 then (if t157 < (x130000_3.length : Int) then (if ((rd_L2 x130000_3 t157).length : Int) > 0 then (if 0 ≤ t160 then (if t160 < (x130000_3.length : Int) then (if ((rd_L2 x130000_3 t160).length : Int) < 4 then ((spec_l5Move.f k3 x130000_3 t157 t160).bind fun t165 => (spec_l1Cur_yard.l2 k3 (wrap64 (x7_3 - 1)) s0_0 t161 t162 t165)) else (spec_l1Cur_yard.l2 k3 (wrap64 (x7_3 - 1)) s0_0 t161 t162 x130000_3)) else (none)) else (none)) else (spec_l1Cur_yard.l2 k3 (wrap64 (x7_3 - 1)) s0_0 t161 t162 x130000_3)) else (none)) else (none))) = some (r1, r2, r3) := H
    have A51 := Aside0.mk A510
    clear A510
    by_cases c52 : t157 = t160
    ·rw [if_pos c52] at H
     have c52b0 : (t157 == t160) = true := beq_iff_eq.mpr c52
     have c52b1 : (t157 != t160) = false := bne_eq_false_iff_eq.mpr c52
     clear c52
     have H' := Aside0.mk H
     clear H
     try go_wp2
     have n0_ := Aside0.mk (Kd.S_drew HO_130000.out)
     have n1_ := Aside0.mk (blk_drew BK128.out)
     have n2_ := Aside0.mk (blk_drew BK129.out)
     have n3_ := Aside0.mk (IsS58.drew HI0.out)
     have n4_ := Aside0.mk (keep_drew HK.out)
     have n5_ := Aside0.mk (below_drew1 HB.out)
     clear HO_130000 BK128 BK129 HI0 HK HB
     have HO_130000 := n0_
     have BK128 := n1_
     have BK129 := n2_
     have HI0 := n3_
     have HK := n4_
     have HB := n5_
     clear n0_ n1_ n2_ n3_ n4_ n5_
     obtain ⟨Ao54, co54, eo54⟩ := Kd.S_slice HO_130000.out
     (first | subst eo54 | (injection eo54 with f1_ f2_ f3_; have f4_ := f1_.symm; have f5_ := f3_.symm; clear f1_ f2_ f3_; subst f4_; subst f5_))
     refine start_ (n := 12) (S := fun w' => w'.cell? ⟨gb129, 0, none⟩ = some (.slice Ao54 x130000_3.length co54)) (ds := []) #[false, false, false, false, false, false, false, false, false, false, false, false] (by kernel_rfl) rfl rfl ((blk_cell BK129.out 0).trans rfl) (fun hHeld => ?_); refine with_tabW spec_l1Cur_yard.tab15 spec_l1Cur_yard.bits15 (fun HT_ HW_ => ?_)
     generalize wr.drew = w53 at HO_130000 BK128 BK129 HI0 HK HB hHeld ⊢
     refine pure_ (i := 0) (N := some 61) (v := ?_) (a' := ?_) #[true, false, false, false, false, false, false, false, false, false, false, false] rfl rfl (any_of HT_.out (by kernel_rfl)) (fun _ _ _ h => h) (Or.inl ⟨by rfl, ?_⟩) ?_ ?_
     rotate_left
     ·intro w'
      go_simp
      with_reducible rfl
     rotate_left
     ·simp only [putS]
      rfl
     refine pure_ (i := 1) (N := some 62) (v := ?_) (a' := ?_) #[true, true, false, false, false, false, false, false, false, false, false, false] rfl rfl (any_of HT_.out (by kernel_rfl)) (fun _ _ _ h => h) (Or.inl ⟨by rfl, ?_⟩) ?_ ?_
     rotate_left
     ·intro w'
      go_simp
      with_reducible rfl
     rotate_left
     ·simp only [putS]
      rfl
     refine pure_ (i := 5) (N := some 66) (v := ?_) (a' := ?_) #[true, true, false, false, false, true, false, false, false, false, false, false] rfl rfl (any_of HT_.out (by kernel_rfl)) (fun _ _ _ h => h) (Or.inl ⟨by rfl, ?_⟩) ?_ ?_
     rotate_left
     ·intro w'
      go_simp
      with_reducible rfl
     rotate_left
     ·simp only [putS]
      rfl
     refine pure_ (i := 6) (N := some 67) (v := ?_) (a' := ?_) #[true, true, false, false, false, true, true, false, false, false, false, false] rfl rfl (any_of HT_.out (by kernel_rfl)) (fun _ _ _ h => h) (Or.inl ⟨by rfl, ?_⟩) ?_ ?_
     rotate_left
     ·intro w'
      go_simp
      with_reducible rfl
     rotate_left
     ·simp only [putS]
      rfl
     refine take_ (i := 2) (N := some 63) (v := ?_) (a' := ?_) #[true, true, true, false, false, true, true, false, false, false, false, false] rfl rfl (take_ofW HT_.out HW_.out (by kernel_rfl)) (fun _ _ _ h => h) (Or.inl ⟨by rfl, ?_⟩) hHeld ?_ ?_
     rotate_left
     ·intro w' s0
      go_simp
      with_reducible rfl
     rotate_left
     ·simp only [putS]
      rfl
     refine pure_ (i := 3) (N := some 64) (v := ?_) (a' := ?_) #[true, true, true, true, false, true, true, false, false, false, false, false] rfl rfl (any_of HT_.out (by kernel_rfl)) (fun _ _ _ h => h) (Or.inl ⟨by rfl, ?_⟩) ?_ ?_
     rotate_left
     ·intro w'
      go_simp
      with_reducible rfl
     rotate_left
     ·simp only [putS]
      rfl
     refine take_ (i := 7) (N := some 68) (v := ?_) (a' := ?_) #[true, true, true, true, false, true, true, true, false, false, false, false] rfl rfl (take_ofW HT_.out HW_.out (by kernel_rfl)) (fun _ _ _ h => h) (Or.inl ⟨by rfl, ?_⟩) hHeld ?_ ?_
     rotate_left
     ·intro w' s0
      go_simp
      with_reducible rfl
     rotate_left
     ·simp only [putS]
      rfl
     refine pure_ (i := 8) (N := some 69) (v := ?_) (a' := ?_) #[true, true, true, true, false, true, true, true, true, false, false, false] rfl rfl (any_of HT_.out (by kernel_rfl)) (fun _ _ _ h => h) (Or.inl ⟨by rfl, ?_⟩) ?_ ?_
     rotate_left
     ·intro w'
      go_simp
      with_reducible rfl
     rotate_left
     ·simp only [putS]
      rfl
     refine one_ (i := 4) (N := some 65) #[true, true, true, true, true, true, true, true, true, false, false, false] rfl rfl (one_of HT_.out (by kernel_rfl)) (by decide) (fun K hK => ?_)
     refine goes_ Try.func44 (by kernel_rfl) rfl #[.pointer (some ⟨g, 0, none⟩), .int .i64 (x130000_3.length : Int)] (by rfl) rfl rfl gmp ?_
     with_reducible refine (spec_l1Cur_pick.calls g s0_0 x1001_3 x1002_3 (x130000_3.length : Int) t157 t158 t159 w0 _ ?side1 ?side2 A50.out).mono ?_
     (case side1 => repeat (first | (with_reducible first | exact HI0.out | apply IsS58.alloc | apply IsS58.drewN | apply IsS58.drew | apply IsS58.set_1 | apply IsS58.set_2 | refine IsS58.far ?_ NB0_128.out _ | refine IsS58.far ?_ NB0_129.out _) | exact HI0.out))
     (case side2 => repeat (first | (with_reducible first | exact HB.out | apply below_alloc | apply pw_below_drewN | apply below_drew1 | refine below_set ?_ (IsS58.ge HI0.out) | refine below_set ?_ GE128.out | refine below_set ?_ GE129.out) | exact HB.out))
     rintro e w55 ⟨rfl, hi, hb, hk⟩
     refine ⟨_, rfl, ?_⟩
     have n0_ := Aside0.mk (Kd.S_mono (Kd.S_keep (IsS58.apartS (show IsS58 w0 _ g s0_0 x1001_3 x1002_3 from by repeat (first | (with_reducible first | exact HI0.out | apply IsS58.alloc | apply IsS58.drewN | apply IsS58.drew | apply IsS58.set_1 | apply IsS58.set_2 | refine IsS58.far ?_ NB0_128.out _ | refine IsS58.far ?_ NB0_129.out _) | exact HI0.out)) (sdl HO_130000) (by decide)) hk (fun _ h => h.2)) (fun _ h => h.1))
     have n1_ := Aside0.mk (KeepBut.blk hk (g' := gb128) (o := .cells #[.slice none 0 0] 26 (0, 0)) (bkl BK128) NB128_0.out (by simp))
     have n2_ := Aside0.mk (KeepBut.blk hk (g' := gb129) (o := .cells #[.slice Ao54 x130000_3.length co54] 26 (0, 0)) (bkl BK129) NB129_0.out (by simp))
     have n3_ := Aside0.mk (KeepBut.trans (by repeat (first | (with_reducible first | exact HK.out | apply KeepBut.set_ | apply keep_drewN | apply keep_drew | apply keep_alloc | refine keep_far ?_ GW128.out _ | refine keep_far ?_ GW129.out _) | exact HK.out)) hk (.inl rfl))
     have n4_ := Aside0.mk (hb)
     have n5_ := Aside0.mk (hi)
     clear HO_130000 BK128 BK129 HK HB HI0
     have HO_130000 := n0_
     have BK128 := n1_
     have BK129 := n2_
     have HK := n3_
     have HB := n4_
     have HI0 := n5_
     clear n0_ n1_ n2_ n3_ n4_ n5_
     (try clear hb)
     (try clear hb2)
     (try clear hk)
     (try clear hi)
     refine hK.out _ _ ((blk_cell BK129.out 0).trans rfl) (fun hHeld => ?_)
     clear hK K
     refine norm_ (a' := ?_) ?_ ?_
     rotate_left
     ·show Act.put _ (some 65) _ = _
      simp only [putS]
      rfl
     refine one_ (i := 9) (N := some 70) #[true, true, true, true, true, true, true, true, true, true, false, false] rfl rfl (one_of HT_.out (by kernel_rfl)) (by decide) (fun K hK => ?_)
     refine goes_ Try.func44 (by kernel_rfl) rfl #[.pointer (some ⟨g, 0, none⟩), .int .i64 (x130000_3.length : Int)] (by rfl) rfl rfl gmp ?_
     with_reducible refine (spec_l1Cur_pick.calls g s0_0 t158 t159 (x130000_3.length : Int) t160 t161 t162 w0 _ ?side1 ?side2 A51.out).mono ?_
     (case side1 => repeat (first | (with_reducible first | exact HI0.out | apply IsS58.alloc | apply IsS58.drewN | apply IsS58.drew | apply IsS58.set_1 | apply IsS58.set_2 | refine IsS58.far ?_ NB0_128.out _ | refine IsS58.far ?_ NB0_129.out _) | exact HI0.out))
     (case side2 => repeat (first | (with_reducible first | exact HB.out | apply below_alloc | apply pw_below_drewN | apply below_drew1 | refine below_set ?_ (IsS58.ge HI0.out) | refine below_set ?_ GE128.out | refine below_set ?_ GE129.out) | exact HB.out))
     rintro e w56 ⟨rfl, hi, hb, hk⟩
     refine ⟨_, rfl, ?_⟩
     have n0_ := Aside0.mk (Kd.S_mono (Kd.S_keep (IsS58.apartS (show IsS58 w0 _ g s0_0 t158 t159 from by repeat (first | (with_reducible first | exact HI0.out | apply IsS58.alloc | apply IsS58.drewN | apply IsS58.drew | apply IsS58.set_1 | apply IsS58.set_2 | refine IsS58.far ?_ NB0_128.out _ | refine IsS58.far ?_ NB0_129.out _) | exact HI0.out)) (sdl HO_130000) (by decide)) hk (fun _ h => h.2)) (fun _ h => h.1))
     have n1_ := Aside0.mk (KeepBut.blk hk (g' := gb128) (o := .cells #[.slice none 0 0] 26 (0, 0)) (bkl BK128) NB128_0.out (by simp))
     have n2_ := Aside0.mk (KeepBut.blk hk (g' := gb129) (o := .cells #[.slice Ao54 x130000_3.length co54] 26 (0, 0)) (bkl BK129) NB129_0.out (by simp))
     have n3_ := Aside0.mk (KeepBut.trans (by repeat (first | (with_reducible first | exact HK.out | apply KeepBut.set_ | apply keep_drewN | apply keep_drew | apply keep_alloc | refine keep_far ?_ GW128.out _ | refine keep_far ?_ GW129.out _) | exact HK.out)) hk (.inl rfl))
     have n4_ := Aside0.mk (hb)
     have n5_ := Aside0.mk (hi)
     clear HO_130000 BK128 BK129 HK HB HI0
     have HO_130000 := n0_
     have BK128 := n1_
     have BK129 := n2_
     have HK := n3_
     have HB := n4_
     have HI0 := n5_
     clear n0_ n1_ n2_ n3_ n4_ n5_
     (try clear hb)
     (try clear hb2)
     (try clear hk)
     (try clear hi)
     refine hK.out _ _ ((blk_cell BK129.out 0).trans rfl) (fun hHeld => ?_)
     clear hK K
     refine norm_ (a' := ?_) ?_ ?_
     rotate_left
     ·show Act.put _ (some 70) _ = _
      simp only [putS]
      rfl
     refine pure_ (i := 10) (N := some 8) (v := ?_) (a' := ?_) #[true, true, true, true, true, true, true, true, true, true, true, false] rfl rfl (any_of HT_.out (by kernel_rfl)) (fun _ _ _ h => h) (Or.inl ⟨by rfl, ?_⟩) ?_ ?_
     rotate_left
     ·intro w'
      go_simp
      with_reducible rfl
     rotate_left
     ·simp only [putS]
      rfl
     refine pure_ (i := 11) (N := some 9) (v := ?_) (a' := ?_) #[true, true, true, true, true, true, true, true, true, true, true, true] rfl rfl (any_of HT_.out (by kernel_rfl)) (fun _ _ _ h => h) (Or.inl ⟨by rfl, ?_⟩) ?_ ?_
     rotate_left
     ·intro w'
      go_simp
      with_reducible rfl
     rotate_left
     ·simp only [putS]
      rfl
     refine done_ (done_of HT_.out (by kernel_rfl)) ?_
     try go_wp2
     go_roundg k3
     case measure => have := HK1.out; have := HK2.out; have := HK3.out; omega
     case rel => exact ⟨(wrap64 (x7_3 - 1)), (t161), (t162), (x130000_3), (.slice Ao54 x130000_3.length co54), (by first | rfl | (simp; done) | (simp [*]; done)), H', ⟨by have := HK1.out; have := HK2.out; have := HK3.out; omega⟩, ⟨sdl HO_130000⟩, ⟨bkl BK128⟩, ⟨bkl BK129⟩, ⟨by repeat (first | (with_reducible first | exact HI0.out | apply IsS58.alloc | apply IsS58.drewN | apply IsS58.drew | apply IsS58.set_1 | apply IsS58.set_2 | refine IsS58.far ?_ NB0_128.out _ | refine IsS58.far ?_ NB0_129.out _) | exact HI0.out)⟩, ⟨by repeat (first | (with_reducible first | exact HK.out | apply KeepBut.set_ | apply keep_drewN | apply keep_drew | apply keep_alloc | refine keep_far ?_ GW128.out _ | refine keep_far ?_ GW129.out _) | exact HK.out)⟩, ⟨by repeat (first | (with_reducible first | exact HB.out | apply below_alloc | apply pw_below_drewN | apply below_drew1 | refine below_set ?_ (IsS58.ge HI0.out) | refine below_set ?_ GE128.out | refine below_set ?_ GE129.out) | exact HB.out)⟩⟩
    rw [if_neg c52] at H
    have c52b0 : (t157 == t160) = false := beq_eq_false_iff_ne.mpr c52
    have c52b1 : (t157 != t160) = true := bne_iff_ne.mpr c52
    by_cases c57 : 0 ≤ t157
    rotate_left
    ·rw [if_neg c57] at H
     exact absurd H (by simp)
    rw [if_pos c57] at H
    have c57b0 : decide (0 ≤ t157) = true := decide_eq_true c57
    clear c57
    by_cases c58 : t157 < (x130000_3.length : Int)
    rotate_left
    ·rw [if_neg c58] at H
     exact absurd H (by simp)
    rw [if_pos c58] at H
    have c58b0 : decide (t157 < (x130000_3.length : Int)) = true := decide_eq_true c58
    clear c58
    by_cases c59 : ((rd_L2 x130000_3 t157).length : Int) > 0
    rotate_left
    ·rw [if_neg c59] at H
     have c59b0 : decide (0 < ((rd_L2 x130000_3 t157).length : Int)) = false := decide_eq_false c59
     have c59b1 : decide (0 < (rd_L2 x130000_3 t157).length) = false := decide_eq_false (by omega)
     clear c59
     have H' := Aside0.mk H
     clear H
     try go_wp2
     have n0_ := Aside0.mk (Kd.S_drew HO_130000.out)
     have n1_ := Aside0.mk (blk_drew BK128.out)
     have n2_ := Aside0.mk (blk_drew BK129.out)
     have n3_ := Aside0.mk (IsS58.drew HI0.out)
     have n4_ := Aside0.mk (keep_drew HK.out)
     have n5_ := Aside0.mk (below_drew1 HB.out)
     clear HO_130000 BK128 BK129 HI0 HK HB
     have HO_130000 := n0_
     have BK128 := n1_
     have BK129 := n2_
     have HI0 := n3_
     have HK := n4_
     have HB := n5_
     clear n0_ n1_ n2_ n3_ n4_ n5_
     obtain ⟨Ao82, co82, eo82⟩ := Kd.S_slice HO_130000.out
     (first | subst eo82 | (injection eo82 with f1_ f2_ f3_; have f4_ := f1_.symm; have f5_ := f3_.symm; clear f1_ f2_ f3_; subst f4_; subst f5_))
     refine start_ (n := 12) (S := fun w' => w'.cell? ⟨gb129, 0, none⟩ = some (.slice Ao82 x130000_3.length co82)) (ds := []) #[false, false, false, false, false, false, false, false, false, false, false, false] (by kernel_rfl) rfl rfl ((blk_cell BK129.out 0).trans rfl) (fun hHeld => ?_); refine with_tabW spec_l1Cur_yard.tab15 spec_l1Cur_yard.bits15 (fun HT_ HW_ => ?_)
     generalize wr.drew = w81 at HO_130000 BK128 BK129 HI0 HK HB hHeld ⊢
     refine pure_ (i := 0) (N := some 61) (v := ?_) (a' := ?_) #[true, false, false, false, false, false, false, false, false, false, false, false] rfl rfl (any_of HT_.out (by kernel_rfl)) (fun _ _ _ h => h) (Or.inl ⟨by rfl, ?_⟩) ?_ ?_
     rotate_left
     ·intro w'
      go_simp
      with_reducible rfl
     rotate_left
     ·simp only [putS]
      rfl
     refine pure_ (i := 1) (N := some 62) (v := ?_) (a' := ?_) #[true, true, false, false, false, false, false, false, false, false, false, false] rfl rfl (any_of HT_.out (by kernel_rfl)) (fun _ _ _ h => h) (Or.inl ⟨by rfl, ?_⟩) ?_ ?_
     rotate_left
     ·intro w'
      go_simp
      with_reducible rfl
     rotate_left
     ·simp only [putS]
      rfl
     refine pure_ (i := 5) (N := some 66) (v := ?_) (a' := ?_) #[true, true, false, false, false, true, false, false, false, false, false, false] rfl rfl (any_of HT_.out (by kernel_rfl)) (fun _ _ _ h => h) (Or.inl ⟨by rfl, ?_⟩) ?_ ?_
     rotate_left
     ·intro w'
      go_simp
      with_reducible rfl
     rotate_left
     ·simp only [putS]
      rfl
     refine pure_ (i := 6) (N := some 67) (v := ?_) (a' := ?_) #[true, true, false, false, false, true, true, false, false, false, false, false] rfl rfl (any_of HT_.out (by kernel_rfl)) (fun _ _ _ h => h) (Or.inl ⟨by rfl, ?_⟩) ?_ ?_
     rotate_left
     ·intro w'
      go_simp
      with_reducible rfl
     rotate_left
     ·simp only [putS]
      rfl
     refine take_ (i := 2) (N := some 63) (v := ?_) (a' := ?_) #[true, true, true, false, false, true, true, false, false, false, false, false] rfl rfl (take_ofW HT_.out HW_.out (by kernel_rfl)) (fun _ _ _ h => h) (Or.inl ⟨by rfl, ?_⟩) hHeld ?_ ?_
     rotate_left
     ·intro w' s0
      go_simp
      with_reducible rfl
     rotate_left
     ·simp only [putS]
      rfl
     refine pure_ (i := 3) (N := some 64) (v := ?_) (a' := ?_) #[true, true, true, true, false, true, true, false, false, false, false, false] rfl rfl (any_of HT_.out (by kernel_rfl)) (fun _ _ _ h => h) (Or.inl ⟨by rfl, ?_⟩) ?_ ?_
     rotate_left
     ·intro w'
      go_simp
      with_reducible rfl
     rotate_left
     ·simp only [putS]
      rfl
     refine take_ (i := 7) (N := some 68) (v := ?_) (a' := ?_) #[true, true, true, true, false, true, true, true, false, false, false, false] rfl rfl (take_ofW HT_.out HW_.out (by kernel_rfl)) (fun _ _ _ h => h) (Or.inl ⟨by rfl, ?_⟩) hHeld ?_ ?_
     rotate_left
     ·intro w' s0
      go_simp
      with_reducible rfl
     rotate_left
     ·simp only [putS]
      rfl
     refine pure_ (i := 8) (N := some 69) (v := ?_) (a' := ?_) #[true, true, true, true, false, true, true, true, true, false, false, false] rfl rfl (any_of HT_.out (by kernel_rfl)) (fun _ _ _ h => h) (Or.inl ⟨by rfl, ?_⟩) ?_ ?_
     rotate_left
     ·intro w'
      go_simp
      with_reducible rfl
     rotate_left
     ·simp only [putS]
      rfl
     refine one_ (i := 4) (N := some 65) #[true, true, true, true, true, true, true, true, true, false, false, false] rfl rfl (one_of HT_.out (by kernel_rfl)) (by decide) (fun K hK => ?_)
     refine goes_ Try.func44 (by kernel_rfl) rfl #[.pointer (some ⟨g, 0, none⟩), .int .i64 (x130000_3.length : Int)] (by rfl) rfl rfl gmp ?_
     with_reducible refine (spec_l1Cur_pick.calls g s0_0 x1001_3 x1002_3 (x130000_3.length : Int) t157 t158 t159 w0 _ ?side1 ?side2 A50.out).mono ?_
     (case side1 => repeat (first | (with_reducible first | exact HI0.out | apply IsS58.alloc | apply IsS58.drewN | apply IsS58.drew | apply IsS58.set_1 | apply IsS58.set_2 | refine IsS58.far ?_ NB0_128.out _ | refine IsS58.far ?_ NB0_129.out _) | exact HI0.out))
     (case side2 => repeat (first | (with_reducible first | exact HB.out | apply below_alloc | apply pw_below_drewN | apply below_drew1 | refine below_set ?_ (IsS58.ge HI0.out) | refine below_set ?_ GE128.out | refine below_set ?_ GE129.out) | exact HB.out))
     rintro e w83 ⟨rfl, hi, hb, hk⟩
     refine ⟨_, rfl, ?_⟩
     have n0_ := Aside0.mk (Kd.S_mono (Kd.S_keep (IsS58.apartS (show IsS58 w0 _ g s0_0 x1001_3 x1002_3 from by repeat (first | (with_reducible first | exact HI0.out | apply IsS58.alloc | apply IsS58.drewN | apply IsS58.drew | apply IsS58.set_1 | apply IsS58.set_2 | refine IsS58.far ?_ NB0_128.out _ | refine IsS58.far ?_ NB0_129.out _) | exact HI0.out)) (sdl HO_130000) (by decide)) hk (fun _ h => h.2)) (fun _ h => h.1))
     have n1_ := Aside0.mk (KeepBut.blk hk (g' := gb128) (o := .cells #[.slice none 0 0] 26 (0, 0)) (bkl BK128) NB128_0.out (by simp))
     have n2_ := Aside0.mk (KeepBut.blk hk (g' := gb129) (o := .cells #[.slice Ao82 x130000_3.length co82] 26 (0, 0)) (bkl BK129) NB129_0.out (by simp))
     have n3_ := Aside0.mk (KeepBut.trans (by repeat (first | (with_reducible first | exact HK.out | apply KeepBut.set_ | apply keep_drewN | apply keep_drew | apply keep_alloc | refine keep_far ?_ GW128.out _ | refine keep_far ?_ GW129.out _) | exact HK.out)) hk (.inl rfl))
     have n4_ := Aside0.mk (hb)
     have n5_ := Aside0.mk (hi)
     clear HO_130000 BK128 BK129 HK HB HI0
     have HO_130000 := n0_
     have BK128 := n1_
     have BK129 := n2_
     have HK := n3_
     have HB := n4_
     have HI0 := n5_
     clear n0_ n1_ n2_ n3_ n4_ n5_
     (try clear hb)
     (try clear hb2)
     (try clear hk)
     (try clear hi)
     refine hK.out _ _ ((blk_cell BK129.out 0).trans rfl) (fun hHeld => ?_)
     clear hK K
     refine norm_ (a' := ?_) ?_ ?_
     rotate_left
     ·show Act.put _ (some 65) _ = _
      simp only [putS]
      rfl
     refine one_ (i := 9) (N := some 70) #[true, true, true, true, true, true, true, true, true, true, false, false] rfl rfl (one_of HT_.out (by kernel_rfl)) (by decide) (fun K hK => ?_)
     refine goes_ Try.func44 (by kernel_rfl) rfl #[.pointer (some ⟨g, 0, none⟩), .int .i64 (x130000_3.length : Int)] (by rfl) rfl rfl gmp ?_
     with_reducible refine (spec_l1Cur_pick.calls g s0_0 t158 t159 (x130000_3.length : Int) t160 t161 t162 w0 _ ?side1 ?side2 A51.out).mono ?_
     (case side1 => repeat (first | (with_reducible first | exact HI0.out | apply IsS58.alloc | apply IsS58.drewN | apply IsS58.drew | apply IsS58.set_1 | apply IsS58.set_2 | refine IsS58.far ?_ NB0_128.out _ | refine IsS58.far ?_ NB0_129.out _) | exact HI0.out))
     (case side2 => repeat (first | (with_reducible first | exact HB.out | apply below_alloc | apply pw_below_drewN | apply below_drew1 | refine below_set ?_ (IsS58.ge HI0.out) | refine below_set ?_ GE128.out | refine below_set ?_ GE129.out) | exact HB.out))
     rintro e w84 ⟨rfl, hi, hb, hk⟩
     refine ⟨_, rfl, ?_⟩
     have n0_ := Aside0.mk (Kd.S_mono (Kd.S_keep (IsS58.apartS (show IsS58 w0 _ g s0_0 t158 t159 from by repeat (first | (with_reducible first | exact HI0.out | apply IsS58.alloc | apply IsS58.drewN | apply IsS58.drew | apply IsS58.set_1 | apply IsS58.set_2 | refine IsS58.far ?_ NB0_128.out _ | refine IsS58.far ?_ NB0_129.out _) | exact HI0.out)) (sdl HO_130000) (by decide)) hk (fun _ h => h.2)) (fun _ h => h.1))
     have n1_ := Aside0.mk (KeepBut.blk hk (g' := gb128) (o := .cells #[.slice none 0 0] 26 (0, 0)) (bkl BK128) NB128_0.out (by simp))
     have n2_ := Aside0.mk (KeepBut.blk hk (g' := gb129) (o := .cells #[.slice Ao82 x130000_3.length co82] 26 (0, 0)) (bkl BK129) NB129_0.out (by simp))
     have n3_ := Aside0.mk (KeepBut.trans (by repeat (first | (with_reducible first | exact HK.out | apply KeepBut.set_ | apply keep_drewN | apply keep_drew | apply keep_alloc | refine keep_far ?_ GW128.out _ | refine keep_far ?_ GW129.out _) | exact HK.out)) hk (.inl rfl))
     have n4_ := Aside0.mk (hb)
     have n5_ := Aside0.mk (hi)
     clear HO_130000 BK128 BK129 HK HB HI0
     have HO_130000 := n0_
     have BK128 := n1_
     have BK129 := n2_
     have HK := n3_
     have HB := n4_
     have HI0 := n5_
     clear n0_ n1_ n2_ n3_ n4_ n5_
     (try clear hb)
     (try clear hb2)
     (try clear hk)
     (try clear hi)
     refine hK.out _ _ ((blk_cell BK129.out 0).trans rfl) (fun hHeld => ?_)
     clear hK K
     refine norm_ (a' := ?_) ?_ ?_
     rotate_left
     ·show Act.put _ (some 70) _ = _
      simp only [putS]
      rfl
     refine pure_ (i := 10) (N := some 8) (v := ?_) (a' := ?_) #[true, true, true, true, true, true, true, true, true, true, true, false] rfl rfl (any_of HT_.out (by kernel_rfl)) (fun _ _ _ h => h) (Or.inl ⟨by rfl, ?_⟩) ?_ ?_
     rotate_left
     ·intro w'
      go_simp
      with_reducible rfl
     rotate_left
     ·simp only [putS]
      rfl
     refine pure_ (i := 11) (N := some 9) (v := ?_) (a' := ?_) #[true, true, true, true, true, true, true, true, true, true, true, true] rfl rfl (any_of HT_.out (by kernel_rfl)) (fun _ _ _ h => h) (Or.inl ⟨by rfl, ?_⟩) ?_ ?_
     rotate_left
     ·intro w'
      go_simp
      with_reducible rfl
     rotate_left
     ·simp only [putS]
      rfl
     refine done_ (done_of HT_.out (by kernel_rfl)) ?_
     have hnb85 := NB129_128.out
     have hnc85 := NB128_129.out
     have hnb86 := NB129_0.out
     have hnc86 := NB0_129.out
     have hcz87_0 : w84.cell? ⟨gb129, 0, none⟩ = some (.slice Ao82 x130000_3.length co82) := (blk_cell BK129.out 0).trans rfl
     have hfz87_0 := blk_frozen BK129.out 0
     have p163 : 0 ≤ (t157 : Int) := oda
     have q163 : t157 < (x130000_3.length : Int) := oda
     obtain ⟨ad163, A163_0, c163_0, e163, hx163_0, hl163_0, hi163_0⟩ := at_L2 (Kd.S_reads' HO_130000.out).2.2 t157 p163 q163
     cases e163
     obtain ⟨ce163, hce163, hMe163, hcc163⟩ := Kd.S_get HO_130000.out [] t157 p163 (by first | exact q163 | exact oda | (have e_ := (Kd.S_reads' HO_130000.out).1; omega))
     obtain ⟨ve163_0, rfl, ge163_0⟩ := hMe163
     have hv163_0 := hcc163 0 _ rfl
     rw [Nat.add_zero, show ((Kd.slice 3 (Kd.int .i64))).sz = 1 from rfl, Nat.mul_one] at hv163_0
     replace hv163_0 := Option.some.inj (hv163_0.symm.trans hx163_0)
     rw [hv163_0] at ge163_0
     have HL163_0 := Aside0.mk (show Kd.R (Kd.int .i64) 3 _ _ _ _ (rd_L2 x130000_3 t157) from ge163_0)
     clear hv163_0 ge163_0
     have HX163_0 := Aside0.mk hx163_0
     clear hcc163 hce163
     have HR163_0 := Aside0.mk hi163_0
     have HC163_0 := Aside0.mk hl163_0
     clear hi163_0 hl163_0
     replace p163 := eq_true p163
     replace q163 := eq_true q163
     try go_wp2
     go_roundg k3
     case measure => have := HK1.out; have := HK2.out; have := HK3.out; omega
     case rel => exact ⟨(wrap64 (x7_3 - 1)), (t161), (t162), (x130000_3), (.slice (some ad163) x130000_3.length co82), (by first | rfl | (simp; done) | (simp [*]; done)), H', ⟨by have := HK1.out; have := HK2.out; have := HK3.out; omega⟩, ⟨sdl HO_130000⟩, ⟨bkl BK128⟩, ⟨bkl BK129⟩, ⟨by repeat (first | (with_reducible first | exact HI0.out | apply IsS58.alloc | apply IsS58.drewN | apply IsS58.drew | apply IsS58.set_1 | apply IsS58.set_2 | refine IsS58.far ?_ NB0_128.out _ | refine IsS58.far ?_ NB0_129.out _) | exact HI0.out)⟩, ⟨by repeat (first | (with_reducible first | exact HK.out | apply KeepBut.set_ | apply keep_drewN | apply keep_drew | apply keep_alloc | refine keep_far ?_ GW128.out _ | refine keep_far ?_ GW129.out _) | exact HK.out)⟩, ⟨by repeat (first | (with_reducible first | exact HB.out | apply below_alloc | apply pw_below_drewN | apply below_drew1 | refine below_set ?_ (IsS58.ge HI0.out) | refine below_set ?_ GE128.out | refine below_set ?_ GE129.out) | exact HB.out)⟩⟩
    rw [if_pos c59] at H
    have c59b0 : decide (0 < ((rd_L2 x130000_3 t157).length : Int)) = true := decide_eq_true c59
    have c59b1 : decide (0 < (rd_L2 x130000_3 t157).length) = true := decide_eq_true (by omega)
    clear c59
    by_cases c60 : 0 ≤ t160
    rotate_left
    ·rw [if_neg c60] at H
     exact absurd H (by simp)
    rw [if_pos c60] at H
    have c60b0 : decide (0 ≤ t160) = true := decide_eq_true c60
    clear c60
    by_cases c61 : t160 < (x130000_3.length : Int)
    rotate_left
    ·rw [if_neg c61] at H
     exact absurd H (by simp)
    rw [if_pos c61] at H
    have c61b0 : decide (t160 < (x130000_3.length : Int)) = true := decide_eq_true c61
    clear c61
    by_cases c62 : ((rd_L2 x130000_3 t160).length : Int) < 4
    rotate_left
    ·rw [if_neg c62] at H
     have c62b0 : decide (((rd_L2 x130000_3 t160).length : Int) < 4) = false := decide_eq_false c62
     have c62b1 : decide ((rd_L2 x130000_3 t160).length < 4) = false := decide_eq_false (by omega)
     clear c62
     have H' := Aside0.mk H
     clear H
     try go_wp2
     have n0_ := Aside0.mk (Kd.S_drew HO_130000.out)
     have n1_ := Aside0.mk (blk_drew BK128.out)
     have n2_ := Aside0.mk (blk_drew BK129.out)
     have n3_ := Aside0.mk (IsS58.drew HI0.out)
     have n4_ := Aside0.mk (keep_drew HK.out)
     have n5_ := Aside0.mk (below_drew1 HB.out)
     clear HO_130000 BK128 BK129 HI0 HK HB
     have HO_130000 := n0_
     have BK128 := n1_
     have BK129 := n2_
     have HI0 := n3_
     have HK := n4_
     have HB := n5_
     clear n0_ n1_ n2_ n3_ n4_ n5_
     obtain ⟨Ao75, co75, eo75⟩ := Kd.S_slice HO_130000.out
     (first | subst eo75 | (injection eo75 with f1_ f2_ f3_; have f4_ := f1_.symm; have f5_ := f3_.symm; clear f1_ f2_ f3_; subst f4_; subst f5_))
     refine start_ (n := 12) (S := fun w' => w'.cell? ⟨gb129, 0, none⟩ = some (.slice Ao75 x130000_3.length co75)) (ds := []) #[false, false, false, false, false, false, false, false, false, false, false, false] (by kernel_rfl) rfl rfl ((blk_cell BK129.out 0).trans rfl) (fun hHeld => ?_); refine with_tabW spec_l1Cur_yard.tab15 spec_l1Cur_yard.bits15 (fun HT_ HW_ => ?_)
     generalize wr.drew = w74 at HO_130000 BK128 BK129 HI0 HK HB hHeld ⊢
     refine pure_ (i := 0) (N := some 61) (v := ?_) (a' := ?_) #[true, false, false, false, false, false, false, false, false, false, false, false] rfl rfl (any_of HT_.out (by kernel_rfl)) (fun _ _ _ h => h) (Or.inl ⟨by rfl, ?_⟩) ?_ ?_
     rotate_left
     ·intro w'
      go_simp
      with_reducible rfl
     rotate_left
     ·simp only [putS]
      rfl
     refine pure_ (i := 1) (N := some 62) (v := ?_) (a' := ?_) #[true, true, false, false, false, false, false, false, false, false, false, false] rfl rfl (any_of HT_.out (by kernel_rfl)) (fun _ _ _ h => h) (Or.inl ⟨by rfl, ?_⟩) ?_ ?_
     rotate_left
     ·intro w'
      go_simp
      with_reducible rfl
     rotate_left
     ·simp only [putS]
      rfl
     refine pure_ (i := 5) (N := some 66) (v := ?_) (a' := ?_) #[true, true, false, false, false, true, false, false, false, false, false, false] rfl rfl (any_of HT_.out (by kernel_rfl)) (fun _ _ _ h => h) (Or.inl ⟨by rfl, ?_⟩) ?_ ?_
     rotate_left
     ·intro w'
      go_simp
      with_reducible rfl
     rotate_left
     ·simp only [putS]
      rfl
     refine pure_ (i := 6) (N := some 67) (v := ?_) (a' := ?_) #[true, true, false, false, false, true, true, false, false, false, false, false] rfl rfl (any_of HT_.out (by kernel_rfl)) (fun _ _ _ h => h) (Or.inl ⟨by rfl, ?_⟩) ?_ ?_
     rotate_left
     ·intro w'
      go_simp
      with_reducible rfl
     rotate_left
     ·simp only [putS]
      rfl
     refine take_ (i := 2) (N := some 63) (v := ?_) (a' := ?_) #[true, true, true, false, false, true, true, false, false, false, false, false] rfl rfl (take_ofW HT_.out HW_.out (by kernel_rfl)) (fun _ _ _ h => h) (Or.inl ⟨by rfl, ?_⟩) hHeld ?_ ?_
     rotate_left
     ·intro w' s0
      go_simp
      with_reducible rfl
     rotate_left
     ·simp only [putS]
      rfl
     refine pure_ (i := 3) (N := some 64) (v := ?_) (a' := ?_) #[true, true, true, true, false, true, true, false, false, false, false, false] rfl rfl (any_of HT_.out (by kernel_rfl)) (fun _ _ _ h => h) (Or.inl ⟨by rfl, ?_⟩) ?_ ?_
     rotate_left
     ·intro w'
      go_simp
      with_reducible rfl
     rotate_left
     ·simp only [putS]
      rfl
     refine take_ (i := 7) (N := some 68) (v := ?_) (a' := ?_) #[true, true, true, true, false, true, true, true, false, false, false, false] rfl rfl (take_ofW HT_.out HW_.out (by kernel_rfl)) (fun _ _ _ h => h) (Or.inl ⟨by rfl, ?_⟩) hHeld ?_ ?_
     rotate_left
     ·intro w' s0
      go_simp
      with_reducible rfl
     rotate_left
     ·simp only [putS]
      rfl
     refine pure_ (i := 8) (N := some 69) (v := ?_) (a' := ?_) #[true, true, true, true, false, true, true, true, true, false, false, false] rfl rfl (any_of HT_.out (by kernel_rfl)) (fun _ _ _ h => h) (Or.inl ⟨by rfl, ?_⟩) ?_ ?_
     rotate_left
     ·intro w'
      go_simp
      with_reducible rfl
     rotate_left
     ·simp only [putS]
      rfl
     refine one_ (i := 4) (N := some 65) #[true, true, true, true, true, true, true, true, true, false, false, false] rfl rfl (one_of HT_.out (by kernel_rfl)) (by decide) (fun K hK => ?_)
     refine goes_ Try.func44 (by kernel_rfl) rfl #[.pointer (some ⟨g, 0, none⟩), .int .i64 (x130000_3.length : Int)] (by rfl) rfl rfl gmp ?_
     with_reducible refine (spec_l1Cur_pick.calls g s0_0 x1001_3 x1002_3 (x130000_3.length : Int) t157 t158 t159 w0 _ ?side1 ?side2 A50.out).mono ?_
     (case side1 => repeat (first | (with_reducible first | exact HI0.out | apply IsS58.alloc | apply IsS58.drewN | apply IsS58.drew | apply IsS58.set_1 | apply IsS58.set_2 | refine IsS58.far ?_ NB0_128.out _ | refine IsS58.far ?_ NB0_129.out _) | exact HI0.out))
     (case side2 => repeat (first | (with_reducible first | exact HB.out | apply below_alloc | apply pw_below_drewN | apply below_drew1 | refine below_set ?_ (IsS58.ge HI0.out) | refine below_set ?_ GE128.out | refine below_set ?_ GE129.out) | exact HB.out))
     rintro e w76 ⟨rfl, hi, hb, hk⟩
     refine ⟨_, rfl, ?_⟩
     have n0_ := Aside0.mk (Kd.S_mono (Kd.S_keep (IsS58.apartS (show IsS58 w0 _ g s0_0 x1001_3 x1002_3 from by repeat (first | (with_reducible first | exact HI0.out | apply IsS58.alloc | apply IsS58.drewN | apply IsS58.drew | apply IsS58.set_1 | apply IsS58.set_2 | refine IsS58.far ?_ NB0_128.out _ | refine IsS58.far ?_ NB0_129.out _) | exact HI0.out)) (sdl HO_130000) (by decide)) hk (fun _ h => h.2)) (fun _ h => h.1))
     have n1_ := Aside0.mk (KeepBut.blk hk (g' := gb128) (o := .cells #[.slice none 0 0] 26 (0, 0)) (bkl BK128) NB128_0.out (by simp))
     have n2_ := Aside0.mk (KeepBut.blk hk (g' := gb129) (o := .cells #[.slice Ao75 x130000_3.length co75] 26 (0, 0)) (bkl BK129) NB129_0.out (by simp))
     have n3_ := Aside0.mk (KeepBut.trans (by repeat (first | (with_reducible first | exact HK.out | apply KeepBut.set_ | apply keep_drewN | apply keep_drew | apply keep_alloc | refine keep_far ?_ GW128.out _ | refine keep_far ?_ GW129.out _) | exact HK.out)) hk (.inl rfl))
     have n4_ := Aside0.mk (hb)
     have n5_ := Aside0.mk (hi)
     clear HO_130000 BK128 BK129 HK HB HI0
     have HO_130000 := n0_
     have BK128 := n1_
     have BK129 := n2_
     have HK := n3_
     have HB := n4_
     have HI0 := n5_
     clear n0_ n1_ n2_ n3_ n4_ n5_
     (try clear hb)
     (try clear hb2)
     (try clear hk)
     (try clear hi)
     refine hK.out _ _ ((blk_cell BK129.out 0).trans rfl) (fun hHeld => ?_)
     clear hK K
     refine norm_ (a' := ?_) ?_ ?_
     rotate_left
     ·show Act.put _ (some 65) _ = _
      simp only [putS]
      rfl
     refine one_ (i := 9) (N := some 70) #[true, true, true, true, true, true, true, true, true, true, false, false] rfl rfl (one_of HT_.out (by kernel_rfl)) (by decide) (fun K hK => ?_)
     refine goes_ Try.func44 (by kernel_rfl) rfl #[.pointer (some ⟨g, 0, none⟩), .int .i64 (x130000_3.length : Int)] (by rfl) rfl rfl gmp ?_
     with_reducible refine (spec_l1Cur_pick.calls g s0_0 t158 t159 (x130000_3.length : Int) t160 t161 t162 w0 _ ?side1 ?side2 A51.out).mono ?_
     (case side1 => repeat (first | (with_reducible first | exact HI0.out | apply IsS58.alloc | apply IsS58.drewN | apply IsS58.drew | apply IsS58.set_1 | apply IsS58.set_2 | refine IsS58.far ?_ NB0_128.out _ | refine IsS58.far ?_ NB0_129.out _) | exact HI0.out))
     (case side2 => repeat (first | (with_reducible first | exact HB.out | apply below_alloc | apply pw_below_drewN | apply below_drew1 | refine below_set ?_ (IsS58.ge HI0.out) | refine below_set ?_ GE128.out | refine below_set ?_ GE129.out) | exact HB.out))
     rintro e w77 ⟨rfl, hi, hb, hk⟩
     refine ⟨_, rfl, ?_⟩
     have n0_ := Aside0.mk (Kd.S_mono (Kd.S_keep (IsS58.apartS (show IsS58 w0 _ g s0_0 t158 t159 from by repeat (first | (with_reducible first | exact HI0.out | apply IsS58.alloc | apply IsS58.drewN | apply IsS58.drew | apply IsS58.set_1 | apply IsS58.set_2 | refine IsS58.far ?_ NB0_128.out _ | refine IsS58.far ?_ NB0_129.out _) | exact HI0.out)) (sdl HO_130000) (by decide)) hk (fun _ h => h.2)) (fun _ h => h.1))
     have n1_ := Aside0.mk (KeepBut.blk hk (g' := gb128) (o := .cells #[.slice none 0 0] 26 (0, 0)) (bkl BK128) NB128_0.out (by simp))
     have n2_ := Aside0.mk (KeepBut.blk hk (g' := gb129) (o := .cells #[.slice Ao75 x130000_3.length co75] 26 (0, 0)) (bkl BK129) NB129_0.out (by simp))
     have n3_ := Aside0.mk (KeepBut.trans (by repeat (first | (with_reducible first | exact HK.out | apply KeepBut.set_ | apply keep_drewN | apply keep_drew | apply keep_alloc | refine keep_far ?_ GW128.out _ | refine keep_far ?_ GW129.out _) | exact HK.out)) hk (.inl rfl))
     have n4_ := Aside0.mk (hb)
     have n5_ := Aside0.mk (hi)
     clear HO_130000 BK128 BK129 HK HB HI0
     have HO_130000 := n0_
     have BK128 := n1_
     have BK129 := n2_
     have HK := n3_
     have HB := n4_
     have HI0 := n5_
     clear n0_ n1_ n2_ n3_ n4_ n5_
     (try clear hb)
     (try clear hb2)
     (try clear hk)
     (try clear hi)
     refine hK.out _ _ ((blk_cell BK129.out 0).trans rfl) (fun hHeld => ?_)
     clear hK K
     refine norm_ (a' := ?_) ?_ ?_
     rotate_left
     ·show Act.put _ (some 70) _ = _
      simp only [putS]
      rfl
     refine pure_ (i := 10) (N := some 8) (v := ?_) (a' := ?_) #[true, true, true, true, true, true, true, true, true, true, true, false] rfl rfl (any_of HT_.out (by kernel_rfl)) (fun _ _ _ h => h) (Or.inl ⟨by rfl, ?_⟩) ?_ ?_
     rotate_left
     ·intro w'
      go_simp
      with_reducible rfl
     rotate_left
     ·simp only [putS]
      rfl
     refine pure_ (i := 11) (N := some 9) (v := ?_) (a' := ?_) #[true, true, true, true, true, true, true, true, true, true, true, true] rfl rfl (any_of HT_.out (by kernel_rfl)) (fun _ _ _ h => h) (Or.inl ⟨by rfl, ?_⟩) ?_ ?_
     rotate_left
     ·intro w'
      go_simp
      with_reducible rfl
     rotate_left
     ·simp only [putS]
      rfl
     refine done_ (done_of HT_.out (by kernel_rfl)) ?_
     have hnb78 := NB129_128.out
     have hnc78 := NB128_129.out
     have hnb79 := NB129_0.out
     have hnc79 := NB0_129.out
     have hcz80_0 : w77.cell? ⟨gb129, 0, none⟩ = some (.slice Ao75 x130000_3.length co75) := (blk_cell BK129.out 0).trans rfl
     have hfz80_0 := blk_frozen BK129.out 0
     have p163 : 0 ≤ (t157 : Int) := oda
     have q163 : t157 < (x130000_3.length : Int) := oda
     obtain ⟨ad163, A163_0, c163_0, e163, hx163_0, hl163_0, hi163_0⟩ := at_L2 (Kd.S_reads' HO_130000.out).2.2 t157 p163 q163
     cases e163
     obtain ⟨ce163, hce163, hMe163, hcc163⟩ := Kd.S_get HO_130000.out [] t157 p163 (by first | exact q163 | exact oda | (have e_ := (Kd.S_reads' HO_130000.out).1; omega))
     obtain ⟨ve163_0, rfl, ge163_0⟩ := hMe163
     have hv163_0 := hcc163 0 _ rfl
     rw [Nat.add_zero, show ((Kd.slice 3 (Kd.int .i64))).sz = 1 from rfl, Nat.mul_one] at hv163_0
     replace hv163_0 := Option.some.inj (hv163_0.symm.trans hx163_0)
     rw [hv163_0] at ge163_0
     have HL163_0 := Aside0.mk (show Kd.R (Kd.int .i64) 3 _ _ _ _ (rd_L2 x130000_3 t157) from ge163_0)
     clear hv163_0 ge163_0
     have HX163_0 := Aside0.mk hx163_0
     clear hcc163 hce163
     have HR163_0 := Aside0.mk hi163_0
     have HC163_0 := Aside0.mk hl163_0
     clear hi163_0 hl163_0
     replace p163 := eq_true p163
     replace q163 := eq_true q163
     have p164 : 0 ≤ (t160 : Int) := oda
     have q164 : t160 < (x130000_3.length : Int) := oda
     obtain ⟨ad164, A164_0, c164_0, e164, hx164_0, hl164_0, hi164_0⟩ := at_L2 (Kd.S_reads' HO_130000.out).2.2 t160 p164 q164
     obtain rfl : ad163 = ad164 := (by injection e164)
     obtain ⟨ce164, hce164, hMe164, hcc164⟩ := Kd.S_get HO_130000.out [] t160 p164 (by first | exact q164 | exact oda | (have e_ := (Kd.S_reads' HO_130000.out).1; omega))
     obtain ⟨ve164_0, rfl, ge164_0⟩ := hMe164
     have hv164_0 := hcc164 0 _ rfl
     rw [Nat.add_zero, show ((Kd.slice 3 (Kd.int .i64))).sz = 1 from rfl, Nat.mul_one] at hv164_0
     replace hv164_0 := Option.some.inj (hv164_0.symm.trans hx164_0)
     rw [hv164_0] at ge164_0
     have HL164_0 := Aside0.mk (show Kd.R (Kd.int .i64) 3 _ _ _ _ (rd_L2 x130000_3 t160) from ge164_0)
     clear hv164_0 ge164_0
     have HX164_0 := Aside0.mk hx164_0
     clear hcc164 hce164
     have HR164_0 := Aside0.mk hi164_0
     have HC164_0 := Aside0.mk hl164_0
     clear hi164_0 hl164_0
     replace p164 := eq_true p164
     replace q164 := eq_true q164
     try go_wp2
     go_roundg k3
     case measure => have := HK1.out; have := HK2.out; have := HK3.out; omega
     case rel => exact ⟨(wrap64 (x7_3 - 1)), (t161), (t162), (x130000_3), (.slice (some ad163) x130000_3.length co75), (by first | rfl | (simp; done) | (simp [*]; done)), H', ⟨by have := HK1.out; have := HK2.out; have := HK3.out; omega⟩, ⟨sdl HO_130000⟩, ⟨bkl BK128⟩, ⟨bkl BK129⟩, ⟨by repeat (first | (with_reducible first | exact HI0.out | apply IsS58.alloc | apply IsS58.drewN | apply IsS58.drew | apply IsS58.set_1 | apply IsS58.set_2 | refine IsS58.far ?_ NB0_128.out _ | refine IsS58.far ?_ NB0_129.out _) | exact HI0.out)⟩, ⟨by repeat (first | (with_reducible first | exact HK.out | apply KeepBut.set_ | apply keep_drewN | apply keep_drew | apply keep_alloc | refine keep_far ?_ GW128.out _ | refine keep_far ?_ GW129.out _) | exact HK.out)⟩, ⟨by repeat (first | (with_reducible first | exact HB.out | apply below_alloc | apply pw_below_drewN | apply below_drew1 | refine below_set ?_ (IsS58.ge HI0.out) | refine below_set ?_ GE128.out | refine below_set ?_ GE129.out) | exact HB.out)⟩⟩
    rw [if_pos c62] at H
    have c62b0 : decide (((rd_L2 x130000_3 t160).length : Int) < 4) = true := decide_eq_true c62
    have c62b1 : decide ((rd_L2 x130000_3 t160).length < 4) = true := decide_eq_true (by omega)
    clear c62
    replace H := Option.bind_eq_some_iff.mp H
    obtain ⟨t165, A630, H⟩ := H
    replace H : (spec_l1Cur_yard.l2 k3 (wrap64 (x7_3 - 1)) s0_0 t161 t162 t165) = some (r1, r2, r3) := H
    have A63 := Aside0.mk A630
    clear A630
    have H' := Aside0.mk H
    clear H
    try go_wp2
    have n0_ := Aside0.mk (Kd.S_drew HO_130000.out)
    have n1_ := Aside0.mk (blk_drew BK128.out)
    have n2_ := Aside0.mk (blk_drew BK129.out)
    have n3_ := Aside0.mk (IsS58.drew HI0.out)
    have n4_ := Aside0.mk (keep_drew HK.out)
    have n5_ := Aside0.mk (below_drew1 HB.out)
    clear HO_130000 BK128 BK129 HI0 HK HB
    have HO_130000 := n0_
    have BK128 := n1_
    have BK129 := n2_
    have HI0 := n3_
    have HK := n4_
    have HB := n5_
    clear n0_ n1_ n2_ n3_ n4_ n5_
    obtain ⟨Ao65, co65, eo65⟩ := Kd.S_slice HO_130000.out
    (first | subst eo65 | (injection eo65 with f1_ f2_ f3_; have f4_ := f1_.symm; have f5_ := f3_.symm; clear f1_ f2_ f3_; subst f4_; subst f5_))
    refine start_ (n := 12) (S := fun w' => w'.cell? ⟨gb129, 0, none⟩ = some (.slice Ao65 x130000_3.length co65)) (ds := []) #[false, false, false, false, false, false, false, false, false, false, false, false] (by kernel_rfl) rfl rfl ((blk_cell BK129.out 0).trans rfl) (fun hHeld => ?_); refine with_tabW spec_l1Cur_yard.tab15 spec_l1Cur_yard.bits15 (fun HT_ HW_ => ?_)
    generalize wr.drew = w64 at HO_130000 BK128 BK129 HI0 HK HB hHeld ⊢
    refine pure_ (i := 0) (N := some 61) (v := ?_) (a' := ?_) #[true, false, false, false, false, false, false, false, false, false, false, false] rfl rfl (any_of HT_.out (by kernel_rfl)) (fun _ _ _ h => h) (Or.inl ⟨by rfl, ?_⟩) ?_ ?_
    rotate_left
    ·intro w'
     go_simp
     with_reducible rfl
    rotate_left
    ·simp only [putS]
     rfl
    refine pure_ (i := 1) (N := some 62) (v := ?_) (a' := ?_) #[true, true, false, false, false, false, false, false, false, false, false, false] rfl rfl (any_of HT_.out (by kernel_rfl)) (fun _ _ _ h => h) (Or.inl ⟨by rfl, ?_⟩) ?_ ?_
    rotate_left
    ·intro w'
     go_simp
     with_reducible rfl
    rotate_left
    ·simp only [putS]
     rfl
    refine pure_ (i := 5) (N := some 66) (v := ?_) (a' := ?_) #[true, true, false, false, false, true, false, false, false, false, false, false] rfl rfl (any_of HT_.out (by kernel_rfl)) (fun _ _ _ h => h) (Or.inl ⟨by rfl, ?_⟩) ?_ ?_
    rotate_left
    ·intro w'
     go_simp
     with_reducible rfl
    rotate_left
    ·simp only [putS]
     rfl
    refine pure_ (i := 6) (N := some 67) (v := ?_) (a' := ?_) #[true, true, false, false, false, true, true, false, false, false, false, false] rfl rfl (any_of HT_.out (by kernel_rfl)) (fun _ _ _ h => h) (Or.inl ⟨by rfl, ?_⟩) ?_ ?_
    rotate_left
    ·intro w'
     go_simp
     with_reducible rfl
    rotate_left
    ·simp only [putS]
     rfl
    refine take_ (i := 2) (N := some 63) (v := ?_) (a' := ?_) #[true, true, true, false, false, true, true, false, false, false, false, false] rfl rfl (take_ofW HT_.out HW_.out (by kernel_rfl)) (fun _ _ _ h => h) (Or.inl ⟨by rfl, ?_⟩) hHeld ?_ ?_
    rotate_left
    ·intro w' s0
     go_simp
     with_reducible rfl
    rotate_left
    ·simp only [putS]
     rfl
    refine pure_ (i := 3) (N := some 64) (v := ?_) (a' := ?_) #[true, true, true, true, false, true, true, false, false, false, false, false] rfl rfl (any_of HT_.out (by kernel_rfl)) (fun _ _ _ h => h) (Or.inl ⟨by rfl, ?_⟩) ?_ ?_
    rotate_left
    ·intro w'
     go_simp
     with_reducible rfl
    rotate_left
    ·simp only [putS]
     rfl
    refine take_ (i := 7) (N := some 68) (v := ?_) (a' := ?_) #[true, true, true, true, false, true, true, true, false, false, false, false] rfl rfl (take_ofW HT_.out HW_.out (by kernel_rfl)) (fun _ _ _ h => h) (Or.inl ⟨by rfl, ?_⟩) hHeld ?_ ?_
    rotate_left
    ·intro w' s0
     go_simp
     with_reducible rfl
    rotate_left
    ·simp only [putS]
     rfl
    refine pure_ (i := 8) (N := some 69) (v := ?_) (a' := ?_) #[true, true, true, true, false, true, true, true, true, false, false, false] rfl rfl (any_of HT_.out (by kernel_rfl)) (fun _ _ _ h => h) (Or.inl ⟨by rfl, ?_⟩) ?_ ?_
    rotate_left
    ·intro w'
     go_simp
     with_reducible rfl
    rotate_left
    ·simp only [putS]
     rfl
    refine one_ (i := 4) (N := some 65) #[true, true, true, true, true, true, true, true, true, false, false, false] rfl rfl (one_of HT_.out (by kernel_rfl)) (by decide) (fun K hK => ?_)
    refine goes_ Try.func44 (by kernel_rfl) rfl #[.pointer (some ⟨g, 0, none⟩), .int .i64 (x130000_3.length : Int)] (by rfl) rfl rfl gmp ?_
    with_reducible refine (spec_l1Cur_pick.calls g s0_0 x1001_3 x1002_3 (x130000_3.length : Int) t157 t158 t159 w0 _ ?side1 ?side2 A50.out).mono ?_
    (case side1 => repeat (first | (with_reducible first | exact HI0.out | apply IsS58.alloc | apply IsS58.drewN | apply IsS58.drew | apply IsS58.set_1 | apply IsS58.set_2 | refine IsS58.far ?_ NB0_128.out _ | refine IsS58.far ?_ NB0_129.out _) | exact HI0.out))
    (case side2 => repeat (first | (with_reducible first | exact HB.out | apply below_alloc | apply pw_below_drewN | apply below_drew1 | refine below_set ?_ (IsS58.ge HI0.out) | refine below_set ?_ GE128.out | refine below_set ?_ GE129.out) | exact HB.out))
    rintro e w66 ⟨rfl, hi, hb, hk⟩
    refine ⟨_, rfl, ?_⟩
    have n0_ := Aside0.mk (Kd.S_mono (Kd.S_keep (IsS58.apartS (show IsS58 w0 _ g s0_0 x1001_3 x1002_3 from by repeat (first | (with_reducible first | exact HI0.out | apply IsS58.alloc | apply IsS58.drewN | apply IsS58.drew | apply IsS58.set_1 | apply IsS58.set_2 | refine IsS58.far ?_ NB0_128.out _ | refine IsS58.far ?_ NB0_129.out _) | exact HI0.out)) (sdl HO_130000) (by decide)) hk (fun _ h => h.2)) (fun _ h => h.1))
    have n1_ := Aside0.mk (KeepBut.blk hk (g' := gb128) (o := .cells #[.slice none 0 0] 26 (0, 0)) (bkl BK128) NB128_0.out (by simp))
    have n2_ := Aside0.mk (KeepBut.blk hk (g' := gb129) (o := .cells #[.slice Ao65 x130000_3.length co65] 26 (0, 0)) (bkl BK129) NB129_0.out (by simp))
    have n3_ := Aside0.mk (KeepBut.trans (by repeat (first | (with_reducible first | exact HK.out | apply KeepBut.set_ | apply keep_drewN | apply keep_drew | apply keep_alloc | refine keep_far ?_ GW128.out _ | refine keep_far ?_ GW129.out _) | exact HK.out)) hk (.inl rfl))
    have n4_ := Aside0.mk (hb)
    have n5_ := Aside0.mk (hi)
    clear HO_130000 BK128 BK129 HK HB HI0
    have HO_130000 := n0_
    have BK128 := n1_
    have BK129 := n2_
    have HK := n3_
    have HB := n4_
    have HI0 := n5_
    clear n0_ n1_ n2_ n3_ n4_ n5_
    (try clear hb)
    (try clear hb2)
    (try clear hk)
    (try clear hi)
    refine hK.out _ _ ((blk_cell BK129.out 0).trans rfl) (fun hHeld => ?_)
    clear hK K
    refine norm_ (a' := ?_) ?_ ?_
    rotate_left
    ·show Act.put _ (some 65) _ = _
     simp only [putS]
     rfl
    refine one_ (i := 9) (N := some 70) #[true, true, true, true, true, true, true, true, true, true, false, false] rfl rfl (one_of HT_.out (by kernel_rfl)) (by decide) (fun K hK => ?_)
    refine goes_ Try.func44 (by kernel_rfl) rfl #[.pointer (some ⟨g, 0, none⟩), .int .i64 (x130000_3.length : Int)] (by rfl) rfl rfl gmp ?_
    with_reducible refine (spec_l1Cur_pick.calls g s0_0 t158 t159 (x130000_3.length : Int) t160 t161 t162 w0 _ ?side1 ?side2 A51.out).mono ?_
    (case side1 => repeat (first | (with_reducible first | exact HI0.out | apply IsS58.alloc | apply IsS58.drewN | apply IsS58.drew | apply IsS58.set_1 | apply IsS58.set_2 | refine IsS58.far ?_ NB0_128.out _ | refine IsS58.far ?_ NB0_129.out _) | exact HI0.out))
    (case side2 => repeat (first | (with_reducible first | exact HB.out | apply below_alloc | apply pw_below_drewN | apply below_drew1 | refine below_set ?_ (IsS58.ge HI0.out) | refine below_set ?_ GE128.out | refine below_set ?_ GE129.out) | exact HB.out))
    rintro e w67 ⟨rfl, hi, hb, hk⟩
    refine ⟨_, rfl, ?_⟩
    have n0_ := Aside0.mk (Kd.S_mono (Kd.S_keep (IsS58.apartS (show IsS58 w0 _ g s0_0 t158 t159 from by repeat (first | (with_reducible first | exact HI0.out | apply IsS58.alloc | apply IsS58.drewN | apply IsS58.drew | apply IsS58.set_1 | apply IsS58.set_2 | refine IsS58.far ?_ NB0_128.out _ | refine IsS58.far ?_ NB0_129.out _) | exact HI0.out)) (sdl HO_130000) (by decide)) hk (fun _ h => h.2)) (fun _ h => h.1))
    have n1_ := Aside0.mk (KeepBut.blk hk (g' := gb128) (o := .cells #[.slice none 0 0] 26 (0, 0)) (bkl BK128) NB128_0.out (by simp))
    have n2_ := Aside0.mk (KeepBut.blk hk (g' := gb129) (o := .cells #[.slice Ao65 x130000_3.length co65] 26 (0, 0)) (bkl BK129) NB129_0.out (by simp))
    have n3_ := Aside0.mk (KeepBut.trans (by repeat (first | (with_reducible first | exact HK.out | apply KeepBut.set_ | apply keep_drewN | apply keep_drew | apply keep_alloc | refine keep_far ?_ GW128.out _ | refine keep_far ?_ GW129.out _) | exact HK.out)) hk (.inl rfl))
    have n4_ := Aside0.mk (hb)
    have n5_ := Aside0.mk (hi)
    clear HO_130000 BK128 BK129 HK HB HI0
    have HO_130000 := n0_
    have BK128 := n1_
    have BK129 := n2_
    have HK := n3_
    have HB := n4_
    have HI0 := n5_
    clear n0_ n1_ n2_ n3_ n4_ n5_
    (try clear hb)
    (try clear hb2)
    (try clear hk)
    (try clear hi)
    refine hK.out _ _ ((blk_cell BK129.out 0).trans rfl) (fun hHeld => ?_)
    clear hK K
    refine norm_ (a' := ?_) ?_ ?_
    rotate_left
    ·show Act.put _ (some 70) _ = _
     simp only [putS]
     rfl
    refine pure_ (i := 10) (N := some 8) (v := ?_) (a' := ?_) #[true, true, true, true, true, true, true, true, true, true, true, false] rfl rfl (any_of HT_.out (by kernel_rfl)) (fun _ _ _ h => h) (Or.inl ⟨by rfl, ?_⟩) ?_ ?_
    rotate_left
    ·intro w'
     go_simp
     with_reducible rfl
    rotate_left
    ·simp only [putS]
     rfl
    refine pure_ (i := 11) (N := some 9) (v := ?_) (a' := ?_) #[true, true, true, true, true, true, true, true, true, true, true, true] rfl rfl (any_of HT_.out (by kernel_rfl)) (fun _ _ _ h => h) (Or.inl ⟨by rfl, ?_⟩) ?_ ?_
    rotate_left
    ·intro w'
     go_simp
     with_reducible rfl
    rotate_left
    ·simp only [putS]
     rfl
    refine done_ (done_of HT_.out (by kernel_rfl)) ?_
    have hnb68 := NB129_128.out
    have hnc68 := NB128_129.out
    have hnb69 := NB129_0.out
    have hnc69 := NB0_129.out
    have hcz70_0 : w67.cell? ⟨gb129, 0, none⟩ = some (.slice Ao65 x130000_3.length co65) := (blk_cell BK129.out 0).trans rfl
    have hfz70_0 := blk_frozen BK129.out 0
    have p163 : 0 ≤ (t157 : Int) := oda
    have q163 : t157 < (x130000_3.length : Int) := oda
    obtain ⟨ad163, A163_0, c163_0, e163, hx163_0, hl163_0, hi163_0⟩ := at_L2 (Kd.S_reads' HO_130000.out).2.2 t157 p163 q163
    cases e163
    obtain ⟨ce163, hce163, hMe163, hcc163⟩ := Kd.S_get HO_130000.out [] t157 p163 (by first | exact q163 | exact oda | (have e_ := (Kd.S_reads' HO_130000.out).1; omega))
    obtain ⟨ve163_0, rfl, ge163_0⟩ := hMe163
    have hv163_0 := hcc163 0 _ rfl
    rw [Nat.add_zero, show ((Kd.slice 3 (Kd.int .i64))).sz = 1 from rfl, Nat.mul_one] at hv163_0
    replace hv163_0 := Option.some.inj (hv163_0.symm.trans hx163_0)
    rw [hv163_0] at ge163_0
    have HL163_0 := Aside0.mk (show Kd.R (Kd.int .i64) 3 _ _ _ _ (rd_L2 x130000_3 t157) from ge163_0)
    clear hv163_0 ge163_0
    have HX163_0 := Aside0.mk hx163_0
    clear hcc163 hce163
    have HR163_0 := Aside0.mk hi163_0
    have HC163_0 := Aside0.mk hl163_0
    clear hi163_0 hl163_0
    replace p163 := eq_true p163
    replace q163 := eq_true q163
    have p164 : 0 ≤ (t160 : Int) := oda
    have q164 : t160 < (x130000_3.length : Int) := oda
    obtain ⟨ad164, A164_0, c164_0, e164, hx164_0, hl164_0, hi164_0⟩ := at_L2 (Kd.S_reads' HO_130000.out).2.2 t160 p164 q164
    obtain rfl : ad163 = ad164 := (by injection e164)
    obtain ⟨ce164, hce164, hMe164, hcc164⟩ := Kd.S_get HO_130000.out [] t160 p164 (by first | exact q164 | exact oda | (have e_ := (Kd.S_reads' HO_130000.out).1; omega))
    obtain ⟨ve164_0, rfl, ge164_0⟩ := hMe164
    have hv164_0 := hcc164 0 _ rfl
    rw [Nat.add_zero, show ((Kd.slice 3 (Kd.int .i64))).sz = 1 from rfl, Nat.mul_one] at hv164_0
    replace hv164_0 := Option.some.inj (hv164_0.symm.trans hx164_0)
    rw [hv164_0] at ge164_0
    have HL164_0 := Aside0.mk (show Kd.R (Kd.int .i64) 3 _ _ _ _ (rd_L2 x130000_3 t160) from ge164_0)
    clear hv164_0 ge164_0
    have HX164_0 := Aside0.mk hx164_0
    clear hcc164 hce164
    have HR164_0 := Aside0.mk hi164_0
    have HC164_0 := Aside0.mk hl164_0
    clear hi164_0 hl164_0
    replace p164 := eq_true p164
    replace q164 := eq_true q164
    try go_wp2_with (first | ((with_reducible refine gate_callee (f := 73) rfl ?_); refine goesL_ (some 95) rfl rfl Try.func73 (by kernel_rfl) rfl #[.agg #[.slice (some ad163) x130000_3.length co65], .int .i64 t157, .int .i64 t160] rfl gmp ?_; (with_reducible refine (spec_l5Move.calls k3 _ _ x130000_3 t157 t160 t165 _ ?side1 ?side2 A63.out).mono ?_); (case side1 => exact cdl (Kd.S_reads' HO_130000.out).2.2); (case side2 => exact (Kd.S_reads' HO_130000.out).2.1); rintro e w71 ⟨v166, rfl, ho0, hb⟩; refine ⟨_, rfl, ?_⟩; have n0_ := Aside0.mk (Kd.S_elder' (sdl HO_130000) (Kd.S_base ho0) hb); have n1_ := Aside0.mk (Kd.R_below (rdl HL163_0) hb); have n2_ := Aside0.mk (Kd.R_below (rdl HL164_0) hb); have n3_ := Aside0.mk (Kd.S_lower (Kd.S_new' (Kd.S_new' (Kd.S_new' ho0 (Kd.S_lt (sdl HO_130000))) (Kd.R_lt (rdl HL163_0))) (Kd.R_lt (rdl HL164_0))) (keep_size (w := w) (g := g) (row := none) (by repeat (first | (with_reducible first | exact HK.out | apply KeepBut.set_ | apply keep_drewN | apply keep_drew | apply keep_alloc | refine keep_far ?_ GW128.out _ | refine keep_far ?_ GW129.out _) | exact HK.out)))); have n4_ := Aside0.mk (blk_below (g := gb128) (o := .cells #[.slice none 0 0] 26 (0, 0)) (bkl BK128) hb); have n5_ := Aside0.mk (blk_below (g := gb129) (o := .cells #[.slice (some ad163) x130000_3.length co65] 26 (0, 0)) (bkl BK129) hb); have n6_ := Aside0.mk (IsS58.below (by repeat (first | (with_reducible first | exact HI0.out | apply IsS58.alloc | apply IsS58.drewN | apply IsS58.drew | apply IsS58.set_1 | apply IsS58.set_2 | refine IsS58.far ?_ NB0_128.out _ | refine IsS58.far ?_ NB0_129.out _) | exact HI0.out)) hb); have n7_ := Aside0.mk (Kd.C_below (cdl HR163_0.out) hb); have n8_ := Aside0.mk (pw_cell_below hb HX163_0.out); have n9_ := Aside0.mk (Kd.C_below (cdl HR164_0.out) hb); have n10_ := Aside0.mk (pw_cell_below hb HX164_0.out); have n11_ := Aside0.mk (KeepBut.trans (by repeat (first | (with_reducible first | exact HK.out | apply KeepBut.set_ | apply keep_drewN | apply keep_drew | apply keep_alloc | refine keep_far ?_ GW128.out _ | refine keep_far ?_ GW129.out _) | exact HK.out)) (KeepBut.of_below hb g none) (.inl rfl)); have n12_ := Aside0.mk (below_step (by repeat (first | (with_reducible first | exact HB.out | apply below_alloc | apply pw_below_drewN | apply below_drew1 | refine below_set ?_ (IsS58.ge HI0.out) | refine below_set ?_ GE128.out | refine below_set ?_ GE129.out) | exact HB.out)) hb); clear HO_130000; clear HL163_0; clear HL164_0; clear BK128; clear BK129; clear HI0; clear HR163_0; clear HX163_0; clear HR164_0; clear HX164_0; clear HK; clear HB; have HO_130000 := n0_; have HL163_0 := n1_; have HL164_0 := n2_; have HO167 := n3_; have BK128 := n4_; have BK129 := n5_; have HI0 := n6_; have HR163_0 := n7_; have HX163_0 := n8_; have HR164_0 := n9_; have HX164_0 := n10_; have HK := n11_; have HB := n12_; clear n0_ n1_ n2_ n3_ n4_ n5_ n6_ n7_ n8_ n9_ n10_ n11_ n12_; (try clear hb); (try clear hb2); (try clear hk); (try clear hi); (try clear ho0); obtain ⟨Ao72, co72, eo72⟩ := Kd.S_slice HO167.out; subst eo72; have hcz73_0 : w71.cell? ⟨gb129, 0, none⟩ = some (.slice (some ad163) x130000_3.length co65) := (blk_cell BK129.out 0).trans rfl; have hfz73_0 := blk_frozen BK129.out 0))
    go_roundg k3
    case measure => have := HK1.out; have := HK2.out; have := HK3.out; omega
    case rel => exact ⟨(wrap64 (x7_3 - 1)), (t161), (t162), (t165), (.slice Ao72 t165.length co72), (by first | rfl | (simp; done) | (simp [*]; done)), H', ⟨by have := HK1.out; have := HK2.out; have := HK3.out; omega⟩, ⟨by (with_reducible repeat (first | apply Kd.S_alloc | apply Kd.S_drewN | apply Kd.S_drew)); exact Kd.S_mono (Kd.S_far (p := ⟨gb129, 0, none⟩) (Kd.S_types HO167.out BK129.out (by decide)) (fun _ hk => hk.2) (.slice Ao72 t165.length co72)) (fun _ hk => trivial)⟩, ⟨by (with_reducible repeat (first | refine blk_drewN ?_ _ | refine blk_drew ?_ | refine blk_alloc ?_ _)); refine blk_far ?_ NB128_129.out _; (with_reducible repeat (first | refine blk_drewN ?_ _ | refine blk_drew ?_ | refine blk_alloc ?_ _)); exact BK128.out⟩, ⟨by (with_reducible repeat (first | refine blk_drewN ?_ _ | refine blk_drew ?_ | refine blk_alloc ?_ _)); refine blk_put (cs := #[.slice (some ad163) x130000_3.length co65]) ?_ 0 _ rfl; (with_reducible repeat (first | refine blk_drewN ?_ _ | refine blk_drew ?_ | refine blk_alloc ?_ _)); exact BK129.out⟩, ⟨by repeat (first | (with_reducible first | exact HI0.out | apply IsS58.alloc | apply IsS58.drewN | apply IsS58.drew | apply IsS58.set_1 | apply IsS58.set_2 | refine IsS58.far ?_ NB0_128.out _ | refine IsS58.far ?_ NB0_129.out _) | exact HI0.out)⟩, ⟨by repeat (first | (with_reducible first | exact HK.out | apply KeepBut.set_ | apply keep_drewN | apply keep_drew | apply keep_alloc | refine keep_far ?_ GW128.out _ | refine keep_far ?_ GW129.out _) | exact HK.out)⟩, ⟨by repeat (first | (with_reducible first | exact HB.out | apply below_alloc | apply pw_below_drewN | apply below_drew1 | refine below_set ?_ (IsS58.ge HI0.out) | refine below_set ?_ GE128.out | refine below_set ?_ GE129.out) | exact HB.out)⟩⟩
end Go.Proofs.Ytmggkimmnekhcaa.P
