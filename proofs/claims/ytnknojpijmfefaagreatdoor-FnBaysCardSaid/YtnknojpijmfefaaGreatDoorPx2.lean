-- Written by a program of this session over the translation (a variant of the printer, see wip/gen); Lean checks it.
import Derived.Test.YtnknojpijmfefaaGreatDoorPx0
import Derived.Test.YtnknojpijmfefaaGreatDoorPx1
namespace Go.Proofs.YtnknojpijmfefaaGreatDoor.P
open Go.RowKit Go.Proofs.YtnknojpijmfefaaGreatDoorW.PrintWords Go.Proofs.YtnknojpijmfefaaGreatDoorW.PrintLast Go.Proofs.YtnknojpijmfefaaGreatDoorW.PrintMore
attribute [local go_sem] Go.Proofs.YtnknojpijmfefaaGreatDoor.V.isSome_setCell max2_int min2_int max_two min_two max_three min_three max_four min_four
set_option linter.unusedVariables false
set_option linter.unusedSimpArgs false
/-! ### spec_l1Cur_bay: function 34 -/
mutual
def spec_l1Cur_bay.l0 : Nat → Int → List Int → Int → Int → Int → List (List Int) → Option (Int × (List (List Int)) × Int × Int)
 | 0, _, _, _, _, _, _ => none
 | k + 1, x4, x1000, x1001, x1002, x121000, x121001 => if x4 > 0 then (if x121001.length < 5864062014805 then (spec_l1Cur_bay.l0 k (wrap64 (x4 - 1)) x1000 x1001 x1002 x121000 (x121001 ++ [(([] : List Int))])) else (none)) else ((spec_l1Cur_pick.f x1000 x1001 x1002 9).bind fun bt130 => (spec_l1Cur_bay.l1 k bt130.1 x1000 bt130.2.1 bt130.2.2 x121000 x121001))
def spec_l1Cur_bay.l1 : Nat → Int → List Int → Int → Int → Int → List (List Int) → Option (Int × (List (List Int)) × Int × Int)
 | 0, _, _, _, _, _, _ => none
 | k + 1, x5, x1000, x1001, x1002, x121000, x121001 => if x5 > 0 then ((spec_l1Cur_pick.f x1000 x1001 x1002 (x121001.length : Int)).bind fun bt133 => ((spec_l1Cur_pick.f x1000 bt133.2.1 bt133.2.2 3).bind fun bt136 => ((spec_l9Find.f k x121000 x121001 (wrap64 (1 + (Int.tmod (wrap64 ((wrap64 (7 * x5)) + (wrap64 (bt136.1 * 31)))) 99)))).bind fun bt139 => (if bt139.1 < 0 then (if 0 ≤ bt133.1 then (if bt133.1 < (x121001.length : Int) then (if ((rd_L2 x121001 bt133.1).length : Int) < x121000 then (if (rd_L2 x121001 bt133.1).length < 17592186044416 then (spec_l1Cur_bay.l1 k (wrap64 (x5 - 1)) x1000 bt136.2.1 bt136.2.2 x121000 (x121001.set (bt133.1 : Int).toNat ((rd_L2 x121001 bt133.1) ++ [wrap64 (1 + (Int.tmod (wrap64 ((wrap64 (7 * x5)) + (wrap64 (bt136.1 * 31)))) 99))]))) else (none)) else (spec_l1Cur_bay.l1 k (wrap64 (x5 - 1)) x1000 bt136.2.1 bt136.2.2 x121000 x121001)) else (none)) else (none)) else (spec_l1Cur_bay.l1 k (wrap64 (x5 - 1)) x1000 bt136.2.1 bt136.2.2 x121000 x121001))))) else (some (x121000, x121001, x1001, x1002))
end
def spec_l1Cur_bay.f (k : Nat) (s0_0 : List Int) (s0_1 : Int) (s0_2 : Int) : Option (Int × (List (List Int)) × Int × Int) := (spec_l1Cur_pick.f s0_0 s0_1 s0_2 4).bind fun bt117 => ((spec_l1Cur_pick.f s0_0 bt117.2.1 bt117.2.2 4).bind fun bt121 => (spec_l1Cur_bay.l0 k (wrap64 (1 + bt121.1)) s0_0 bt121.2.1 bt121.2.2 (wrap64 (1 + bt117.1)) ([] : List (List Int))))
theorem spec_l1Cur_bay.mono_l : ∀ k, (∀ y0 y1 y2 y3 y4 y5, LeO (spec_l1Cur_bay.l0 k y0 y1 y2 y3 y4 y5) (spec_l1Cur_bay.l0 (k + 1) y0 y1 y2 y3 y4 y5)) ∧ (∀ y0 y1 y2 y3 y4 y5, LeO (spec_l1Cur_bay.l1 k y0 y1 y2 y3 y4 y5) (spec_l1Cur_bay.l1 (k + 1) y0 y1 y2 y3 y4 y5))
 | 0 => ⟨fun _ _ _ _ _ _ r h => by simp [spec_l1Cur_bay.l0] at h, fun _ _ _ _ _ _ r h => by simp [spec_l1Cur_bay.l1] at h⟩
 | k + 1 => by
  obtain ⟨ih0, ih1⟩ := spec_l1Cur_bay.mono_l k
  refine ⟨?_, ?_⟩
  ·intro y0 y1 y2 y3 y4 y5
   unfold spec_l1Cur_bay.l0
   repeat' first
   | (with_reducible exact ih0 _ _ _ _ _ _)
   | (with_reducible exact ih1 _ _ _ _ _ _)
   | (with_reducible exact spec_l9Find.mono _ _ _ _)
   | (with_reducible exact LeO.refl _)
   | (with_reducible exact LeO.none _)
   | (with_reducible refine LeO.ite ?_ ?_)
   | (with_reducible refine LeO.bind ?_ (fun _ => ?_))
   | exact ih0 _ _ _ _ _ _
   | exact ih1 _ _ _ _ _ _
   | exact spec_l9Find.mono _ _ _ _
   | exact LeO.none _
   | refine LeO.ite ?_ ?_
   | refine LeO.bind ?_ (fun _ => ?_)
  ·intro y0 y1 y2 y3 y4 y5
   unfold spec_l1Cur_bay.l1
   repeat' first
   | (with_reducible exact ih0 _ _ _ _ _ _)
   | (with_reducible exact ih1 _ _ _ _ _ _)
   | (with_reducible exact spec_l9Find.mono _ _ _ _)
   | (with_reducible exact LeO.refl _)
   | (with_reducible exact LeO.none _)
   | (with_reducible refine LeO.ite ?_ ?_)
   | (with_reducible refine LeO.bind ?_ (fun _ => ?_))
   | exact ih0 _ _ _ _ _ _
   | exact ih1 _ _ _ _ _ _
   | exact spec_l9Find.mono _ _ _ _
   | exact LeO.none _
   | refine LeO.ite ?_ ?_
   | refine LeO.bind ?_ (fun _ => ?_)
theorem spec_l1Cur_bay.mono : ∀ a0 a1 a2 k, LeO (spec_l1Cur_bay.f k a0 a1 a2) (spec_l1Cur_bay.f (k + 1) a0 a1 a2) := by
 intro a0 a1 a2 k
 obtain ⟨ih0, ih1⟩ := spec_l1Cur_bay.mono_l k
 unfold spec_l1Cur_bay.f
 repeat' first
   | (with_reducible exact ih0 _ _ _ _ _ _)
   | (with_reducible exact ih1 _ _ _ _ _ _)
   | (with_reducible exact spec_l9Find.mono _ _ _ _)
   | (with_reducible exact LeO.refl _)
   | (with_reducible exact LeO.none _)
   | (with_reducible refine LeO.ite ?_ ?_)
   | (with_reducible refine LeO.bind ?_ (fun _ => ?_))
   | exact ih0 _ _ _ _ _ _
   | exact ih1 _ _ _ _ _ _
   | exact spec_l9Find.mono _ _ _ _
   | exact LeO.none _
   | refine LeO.ite ?_ ?_
   | refine LeO.bind ?_ (fun _ => ?_)
def spec_l1Cur_bay.T12 : Bool × List (List Nat × List Nat) := (true, [([], []), ([0], [0]), ([1], [1]), ([2], [2]), ([3, 2], [2, 3]), ([2], [2]), ([4, 5, 2], [2, 4, 5]), ([6, 2], [2, 6]), ([7, 2], [2, 7]), ([2], [2]), ([9, 2], [2, 9]), ([8, 10, 2], [2, 8, 10]), ([2, 11], [2, 11])])
def spec_l1Cur_bay.B12 : List Nat := [0, 1, 3, 7, 15, 7, 63, 127, 255, 7, 519, 2047, 4095]
theorem spec_l1Cur_bay.tab12 : rtab .any (opsOf Tryz.f34 12) = spec_l1Cur_bay.T12 := by kernel_rfl
theorem spec_l1Cur_bay.bits12 : waitsOk spec_l1Cur_bay.T12.2 spec_l1Cur_bay.B12 = true := by kernel_rfl
def spec_l1Cur_bay.T13 : Bool × List (List Nat × List Nat) := (true, [([], []), ([0], [0]), ([], []), ([], []), ([3], [3]), ([], []), ([4, 5], [4, 5]), ([6], [6]), ([], []), ([8], [8]), ([7, 9], [7, 9]), ([1, 2, 0, 1, 2, 3, 4, 5, 6, 7, 8, 9, 10], [1, 2]), ([11, 10, 10, 0, 1, 2, 3, 4, 5, 6, 7, 8, 9, 10], [10, 11])])
def spec_l1Cur_bay.B13 : List Nat := [0, 1, 0, 0, 8, 0, 56, 120, 0, 256, 1016, 2047, 4095]
theorem spec_l1Cur_bay.tab13 : rtab .any (opsOf Tryz.f34 13) = spec_l1Cur_bay.T13 := by kernel_rfl
theorem spec_l1Cur_bay.bits13 : waitsOk spec_l1Cur_bay.T13.2 spec_l1Cur_bay.B13 = true := by kernel_rfl
set_option maxHeartbeats 8000000 in
set_option maxRecDepth 100000 in
theorem spec_l1Cur_bay.calls (k : Nat) (g : Nat) (s0_0 : List Int) (s0_1 : Int) (s0_2 : Int) (r1 : Int) (r2 : List (List Int)) (r3 : Int) (r4 : Int) (w0 w : World) (hI : IsS44 w0 w g s0_0 s0_1 s0_2) (hB : Below w0.heap.size w0 w) (h : spec_l1Cur_bay.f k s0_0 s0_1 s0_2 = some (r1, r2, r3, r4)) :
  Calls Tryz.prog 34 #[.pointer (some ⟨g, 0, none⟩)] w fun e w' => ∃ v1_ : Value, e = .returned (.agg #[.int .i64 r1, v1_]) ∧ Kd.S (Kd.slice 3 (Kd.int .i64)) 48 w' w.heap.size (fun _ => True) v1_ r2 ∧ IsS44 w0 w' g s0_0 r3 r4 ∧ Below w0.heap.size w0 w' ∧ KeepBut w w' g none := by
 have hu26 := Tryz.underlying26
 have HI0 := Aside0.mk hI
 have HK := Aside0.mk (KeepBut.refl w g none)
 have HL := Aside0.mk hB.size
 clear hI
 have HW0 := Aside0.mk hB.size
 have HB := Aside0.mk hB
 clear hB
 have H : ((spec_l1Cur_pick.f s0_0 s0_1 s0_2 4).bind fun bt117 => ((spec_l1Cur_pick.f s0_0 bt117.2.1 bt117.2.2 4).bind fun bt121 => (spec_l1Cur_bay.l0 k (wrap64 (1 + bt121.1)) s0_0 bt121.2.1 bt121.2.2 (wrap64 (1 + bt117.1)) ([] : List (List Int))))) = some (r1, r2, r3, r4) := h
 clear h
 replace H := Option.bind_eq_some_iff.mp H
 obtain ⟨⟨t117, t118, t119⟩, A20, H⟩ := H
 replace H : ((spec_l1Cur_pick.f s0_0 t118 t119 4).bind fun bt121 => (spec_l1Cur_bay.l0 k (wrap64 (1 + bt121.1)) s0_0 bt121.2.1 bt121.2.2 (wrap64 (1 + t117)) ([] : List (List Int)))) = some (r1, r2, r3, r4) := H
 have A2 := Aside0.mk A20
 clear A20
 replace H := Option.bind_eq_some_iff.mp H
 obtain ⟨⟨t121, t122, t123⟩, A30, H⟩ := H
 replace H : (spec_l1Cur_bay.l0 k (wrap64 (1 + t121)) s0_0 t122 t123 (wrap64 (1 + t117)) ([] : List (List Int))) = some (r1, r2, r3, r4) := H
 have A3 := Aside0.mk A30
 clear A30
 have H' := Aside0.mk H
 clear H
 go_enter Tryz.func34, Tryz.ntmps34
 go_wp2_with (first | ((with_reducible refine gate_dst (N := 2) rfl ?_); (try (refine gate_guard (by rfl) ?_; dsimp only)); refine box_event ?hg (N := 2) ?hd (cs := #[.int .i64 0, .slice none 0 0]) (t := 26) ?hr ?_; (case hd => rfl); (case hg => rfl); (case hr => first | (go_simp; done) | (go_simp; rfl)); intro gb116 hg w4 hbox hb; have n0_ := Aside0.mk (IsS44.below (by repeat (first | (with_reducible first | exact HI0.out | apply IsS44.alloc | apply IsS44.drewN | apply IsS44.drew | apply IsS44.set_1 | apply IsS44.set_2) | exact HI0.out)) hb); have n1_ := Aside0.mk (KeepBut.trans (by repeat (first | (with_reducible first | exact HK.out | apply KeepBut.set_ | apply keep_drewN | apply keep_drew | apply keep_alloc) | exact HK.out)) (KeepBut.of_below hb g none) (.inl rfl)); have n2_ := Aside0.mk (below_step (by repeat (first | (with_reducible first | exact HB.out | apply below_alloc | apply pw_below_drewN | apply below_drew1 | refine below_set ?_ (IsS44.ge HI0.out)) | exact HB.out)) hb); have n3_ := Aside0.mk (hbox); have n4_ := Aside0.mk ((by rw [hg]; exact (keep_size (w := w) (g := g) (row := none) (by repeat (first | (with_reducible first | exact HK.out | apply KeepBut.set_ | apply keep_drewN | apply keep_drew | apply keep_alloc) | exact HK.out))) : w.heap.size ≤ gb116)); have n5_ := Aside0.mk ((Nat.le_trans HW0.out (by rw [hg]; exact (keep_size (w := w) (g := g) (row := none) (by repeat (first | (with_reducible first | exact HK.out | apply KeepBut.set_ | apply keep_drewN | apply keep_drew | apply keep_alloc) | exact HK.out))) : w.heap.size ≤ gb116) : w0.heap.size ≤ gb116)); have n6_ := Aside0.mk ((by rw [hg]; exact Nat.ne_of_lt (IsS44.lt (show IsS44 w0 _ g s0_0 s0_1 s0_2 from by repeat (first | (with_reducible first | exact HI0.out | apply IsS44.alloc | apply IsS44.drewN | apply IsS44.drew | apply IsS44.set_1 | apply IsS44.set_2) | exact HI0.out))) : g ≠ gb116)); have n7_ := Aside0.mk ((by rw [hg]; exact Nat.ne_of_gt (IsS44.lt (show IsS44 w0 _ g s0_0 s0_1 s0_2 from by repeat (first | (with_reducible first | exact HI0.out | apply IsS44.alloc | apply IsS44.drewN | apply IsS44.drew | apply IsS44.set_1 | apply IsS44.set_2) | exact HI0.out))) : gb116 ≠ g)); clear HI0; clear HK; clear HB; have HI0 := n0_; have HK := n1_; have HB := n2_; have BK116 := n3_; have GW116 := n4_; have GE116 := n5_; have NB0_116 := n6_; have NB116_0 := n7_; clear n0_ n1_ n2_ n3_ n4_ n5_ n6_ n7_; clear hb hbox hg) | ((with_reducible refine gate_callee (f := 17) rfl ?_); refine goesL_ (some 11) rfl rfl Tryz.func17 (by kernel_rfl) rfl #[.pointer (some ⟨g, 0, none⟩), .int .i64 4] rfl gmp ?_; (with_reducible refine (spec_l1Cur_pick.calls g s0_0 s0_1 s0_2 4 t117 t118 t119 w0 _ ?side1 ?side2 A2.out).mono ?_); (case side1 => repeat (first | (with_reducible first | exact HI0.out | apply IsS44.alloc | apply IsS44.drewN | apply IsS44.drew | apply IsS44.set_1 | apply IsS44.set_2 | refine IsS44.far ?_ NB0_116.out _) | exact HI0.out)); (case side2 => repeat (first | (with_reducible first | exact HB.out | apply below_alloc | apply pw_below_drewN | apply below_drew1 | refine below_set ?_ (IsS44.ge HI0.out) | refine below_set ?_ GE116.out) | exact HB.out)); rintro e w5 ⟨rfl, hi, hb, hk⟩; refine ⟨_, rfl, ?_⟩; have n0_ := Aside0.mk (KeepBut.blk hk (g' := gb116) (o := .cells #[.int .i64 0, .slice none 0 0] 26 (0, 0)) (bkl BK116) NB116_0.out (by simp)); have n1_ := Aside0.mk (KeepBut.trans (by repeat (first | (with_reducible first | exact HK.out | apply KeepBut.set_ | apply keep_drewN | apply keep_drew | apply keep_alloc | refine keep_far ?_ GW116.out _) | exact HK.out)) hk (.inl rfl)); have n2_ := Aside0.mk (hb); have n3_ := Aside0.mk (hi); clear BK116; clear HK; clear HB; clear HI0; have BK116 := n0_; have HK := n1_; have HB := n2_; have HI0 := n3_; clear n0_ n1_ n2_ n3_; (try clear hb); (try clear hb2); (try clear hk); (try clear hi)) | ((with_reducible refine gate_dst (N := 3) rfl ?_); (try (refine gate_guard (by rfl) ?_; dsimp only)); refine box_event ?hg (N := 3) ?hd (cs := #[.int .i64 0, .slice none 0 0]) (t := 26) ?hr ?_; (case hd => rfl); (case hg => rfl); (case hr => first | (go_simp; done) | (go_simp; rfl)); intro gb120 hg w6 hbox hb; have n0_ := Aside0.mk (IsS44.below (by repeat (first | (with_reducible first | exact HI0.out | apply IsS44.alloc | apply IsS44.drewN | apply IsS44.drew | apply IsS44.set_1 | apply IsS44.set_2 | refine IsS44.far ?_ NB0_116.out _) | exact HI0.out)) hb); have n1_ := Aside0.mk (blk_below (g := gb116) (o := .cells #[.int .i64 0, .slice none 0 0] 26 (0, 0)) (bkl BK116) hb); have n2_ := Aside0.mk (KeepBut.trans (by repeat (first | (with_reducible first | exact HK.out | apply KeepBut.set_ | apply keep_drewN | apply keep_drew | apply keep_alloc | refine keep_far ?_ GW116.out _) | exact HK.out)) (KeepBut.of_below hb g none) (.inl rfl)); have n3_ := Aside0.mk (below_step (by repeat (first | (with_reducible first | exact HB.out | apply below_alloc | apply pw_below_drewN | apply below_drew1 | refine below_set ?_ (IsS44.ge HI0.out) | refine below_set ?_ GE116.out) | exact HB.out)) hb); have n4_ := Aside0.mk (hbox); have n5_ := Aside0.mk ((by rw [hg]; exact (keep_size (w := w) (g := g) (row := none) (by repeat (first | (with_reducible first | exact HK.out | apply KeepBut.set_ | apply keep_drewN | apply keep_drew | apply keep_alloc | refine keep_far ?_ GW116.out _) | exact HK.out))) : w.heap.size ≤ gb120)); have n6_ := Aside0.mk ((Nat.le_trans HW0.out (by rw [hg]; exact (keep_size (w := w) (g := g) (row := none) (by repeat (first | (with_reducible first | exact HK.out | apply KeepBut.set_ | apply keep_drewN | apply keep_drew | apply keep_alloc | refine keep_far ?_ GW116.out _) | exact HK.out))) : w.heap.size ≤ gb120) : w0.heap.size ≤ gb120)); have n7_ := Aside0.mk ((by rw [hg]; exact Nat.ne_of_lt (blk_lt (g := gb116) (o := .cells #[.int .i64 0, .slice none 0 0] 26 (0, 0)) (bkl BK116)) : gb116 ≠ gb120)); have n8_ := Aside0.mk ((by rw [hg]; exact Nat.ne_of_gt (blk_lt (g := gb116) (o := .cells #[.int .i64 0, .slice none 0 0] 26 (0, 0)) (bkl BK116)) : gb120 ≠ gb116)); have n9_ := Aside0.mk ((by rw [hg]; exact Nat.ne_of_lt (IsS44.lt (show IsS44 w0 _ g s0_0 t118 t119 from by repeat (first | (with_reducible first | exact HI0.out | apply IsS44.alloc | apply IsS44.drewN | apply IsS44.drew | apply IsS44.set_1 | apply IsS44.set_2 | refine IsS44.far ?_ NB0_116.out _) | exact HI0.out))) : g ≠ gb120)); have n10_ := Aside0.mk ((by rw [hg]; exact Nat.ne_of_gt (IsS44.lt (show IsS44 w0 _ g s0_0 t118 t119 from by repeat (first | (with_reducible first | exact HI0.out | apply IsS44.alloc | apply IsS44.drewN | apply IsS44.drew | apply IsS44.set_1 | apply IsS44.set_2 | refine IsS44.far ?_ NB0_116.out _) | exact HI0.out))) : gb120 ≠ g)); clear HI0; clear BK116; clear HK; clear HB; have HI0 := n0_; have BK116 := n1_; have HK := n2_; have HB := n3_; have BK120 := n4_; have GW120 := n5_; have GE120 := n6_; have NB116_120 := n7_; have NB120_116 := n8_; have NB0_120 := n9_; have NB120_0 := n10_; clear n0_ n1_ n2_ n3_ n4_ n5_ n6_ n7_ n8_ n9_ n10_; clear hb hbox hg; have hnb7 := NB120_116.out; have hnc7 := NB116_120.out; have hnb8 := NB120_0.out; have hnc8 := NB0_120.out; have hcz9_0 : w6.cell? ⟨gb120, 0, none⟩ = some (.int .i64 0) := (blk_cell BK120.out 0).trans rfl; have hcz9_1 : w6.cell? ⟨gb120, 1, none⟩ = some (.slice none 0 0) := (blk_cell BK120.out 1).trans rfl; have hfz9_0 := blk_frozen BK120.out 0; have hfz9_1 := blk_frozen BK120.out 1) | ((with_reducible refine gate_callee (f := 17) rfl ?_); refine goesL_ (some 15) rfl rfl Tryz.func17 (by kernel_rfl) rfl #[.pointer (some ⟨g, 0, none⟩), .int .i64 4] rfl gmp ?_; (with_reducible refine (spec_l1Cur_pick.calls g s0_0 t118 t119 4 t121 t122 t123 w0 _ ?side1 ?side2 A3.out).mono ?_); (case side1 => repeat (first | (with_reducible first | exact HI0.out | apply IsS44.alloc | apply IsS44.drewN | apply IsS44.drew | apply IsS44.set_1 | apply IsS44.set_2 | refine IsS44.far ?_ NB0_116.out _ | refine IsS44.far ?_ NB0_120.out _) | exact HI0.out)); (case side2 => repeat (first | (with_reducible first | exact HB.out | apply below_alloc | apply pw_below_drewN | apply below_drew1 | refine below_set ?_ (IsS44.ge HI0.out) | refine below_set ?_ GE116.out | refine below_set ?_ GE120.out) | exact HB.out)); rintro e w10 ⟨rfl, hi, hb, hk⟩; refine ⟨_, rfl, ?_⟩; have n0_ := Aside0.mk (KeepBut.blk hk (g' := gb116) (o := .cells #[.int .i64 0, .slice none 0 0] 26 (0, 0)) (by (with_reducible repeat (first | refine blk_drewN ?_ _ | refine blk_drew ?_ | refine blk_alloc ?_ _)); refine blk_far ?_ NB116_120.out _; (with_reducible repeat (first | refine blk_drewN ?_ _ | refine blk_drew ?_ | refine blk_alloc ?_ _)); refine blk_far ?_ NB116_120.out _; (with_reducible repeat (first | refine blk_drewN ?_ _ | refine blk_drew ?_ | refine blk_alloc ?_ _)); exact BK116.out) NB116_0.out (by simp)); have n1_ := Aside0.mk (KeepBut.blk hk (g' := gb120) (o := .cells #[.int .i64 (wrap64 (1 + t117)), .slice none 0 0] 26 (0, 0)) (by (with_reducible repeat (first | refine blk_drewN ?_ _ | refine blk_drew ?_ | refine blk_alloc ?_ _)); refine blk_put (cs := #[.int .i64 (wrap64 (1 + t117)), .slice none 0 0]) ?_ 1 _ rfl; (with_reducible repeat (first | refine blk_drewN ?_ _ | refine blk_drew ?_ | refine blk_alloc ?_ _)); refine blk_put (cs := #[.int .i64 0, .slice none 0 0]) ?_ 0 _ rfl; (with_reducible repeat (first | refine blk_drewN ?_ _ | refine blk_drew ?_ | refine blk_alloc ?_ _)); exact BK120.out) NB120_0.out (by simp)); have n2_ := Aside0.mk (KeepBut.trans (by repeat (first | (with_reducible first | exact HK.out | apply KeepBut.set_ | apply keep_drewN | apply keep_drew | apply keep_alloc | refine keep_far ?_ GW116.out _ | refine keep_far ?_ GW120.out _) | exact HK.out)) hk (.inl rfl)); have n3_ := Aside0.mk (hb); have n4_ := Aside0.mk (hi); clear BK116; clear BK120; clear HK; clear HB; clear HI0; have BK116 := n0_; have BK120 := n1_; have HK := n2_; have HB := n3_; have HI0 := n4_; clear n0_ n1_ n2_ n3_ n4_; (try clear hb); (try clear hb2); (try clear hk); (try clear hi)))
 go_loopg [4] k (fun kq v4 w' => ∃ (x4_1 : Int) (x121001_1 : List (List Int)) (u121001 : Value), v4 = .int .i64 x4_1 ∧ Aside0 (spec_l1Cur_bay.l0 kq x4_1 s0_0 t122 t123 (wrap64 (1 + t117)) x121001_1 = some (r1, r2, r3, r4)) ∧ Aside0 (kq ≤ k) ∧ Aside0 (Kd.S (Kd.slice 3 (Kd.int .i64)) 48 w' w.heap.size (fun _ => True) u121001 x121001_1) ∧ Aside0 (w'.heap[gb116]? = some (.cells #[.int .i64 0, (.slice none 0 0)] 26 (0, 0))) ∧ Aside0 (w'.heap[gb120]? = some (.cells #[.int .i64 (wrap64 (1 + t117)), u121001] 26 (0, 0))) ∧ Aside0 (IsS44 w0 w' g s0_0 t122 t123) ∧ Aside0 (KeepBut w w' g none) ∧ Aside0 (Below w0.heap.size w0 w'))
 case atStart => exact ⟨(wrap64 (1 + t121)), (([] : List (List Int))), (.slice none 0 0), (by first | rfl | (simp; done) | (simp [*]; done)), H', ⟨Nat.le_refl _⟩, ⟨by first | exact Kd.S_nil _ _ _ _ _ | exact Kd.N_nil _ _ _ _ _ | exact Kd.V_nil _ _ _ _ _ | exact Kd.Q_nil _ _ _ _ _ | exact Kd.R_nil _ _ _ _ _⟩, ⟨bkl BK116⟩, ⟨bkl BK120⟩, ⟨by repeat (first | (with_reducible first | exact HI0.out | apply IsS44.alloc | apply IsS44.drewN | apply IsS44.drew | apply IsS44.set_1 | apply IsS44.set_2 | refine IsS44.far ?_ NB0_116.out _ | refine IsS44.far ?_ NB0_120.out _) | exact HI0.out)⟩, ⟨by repeat (first | (with_reducible first | exact HK.out | apply KeepBut.set_ | apply keep_drewN | apply keep_drew | apply keep_alloc | refine keep_far ?_ GW116.out _ | refine keep_far ?_ GW120.out _) | exact HK.out)⟩, ⟨by repeat (first | (with_reducible first | exact HB.out | apply below_alloc | apply pw_below_drewN | apply below_drew1 | refine below_set ?_ (IsS44.ge HI0.out) | refine below_set ?_ GE116.out | refine below_set ?_ GE120.out) | exact HB.out)⟩⟩
 clear H'
 try clear c1
 try clear p2
 try clear c3
 try clear p6
 try clear c7
 try clear c8
 try clear hcz9_0
 try clear hcz9_1
 try clear hfz9_0
 try clear hfz9_1
 obtain ⟨x4_1, x121001_1, u121001, rfl, HA, HK1, HO_121001, BK116, BK120, HI0, HK, HB⟩ := hrel
 cases gk with
 | zero => exact absurd HA.out (by simp [spec_l1Cur_bay.l0])
 | succ k1 =>
  have H := HA.out
  clear HA
  simp only [spec_l1Cur_bay.l0] at H
  by_cases c11 : x4_1 > 0
  ·rw [if_pos c11] at H
   have c11b0 : decide (0 < x4_1) = true := decide_eq_true c11
   clear c11
   obtain ⟨y124, hy124⟩ : ∃ y_ : List Int, y_ = (([] : List Int)) := ⟨_, rfl⟩
   replace H : (if x121001_1.length < 5864062014805 then (spec_l1Cur_bay.l0 k1 (wrap64 (x4_1 - 1)) s0_0 t122 t123 (wrap64 (1 + t117)) (x121001_1 ++ [y124])) else (none)) = some (r1, r2, r3, r4) := by first | (rw [hy124]; with_reducible exact H) | (have H2_ := (Option.bind_some _ _).symm.trans H; rw [hy124]; with_reducible exact H2_) | (have H2_ := (Option.bind_some _ _).symm.trans H; with_reducible exact H2_) | with_reducible exact H | (rw [hy124]; exact H) | exact H
   have Ny124 := Aside0.mk hy124
   clear hy124
   by_cases c12 : x121001_1.length < 5864062014805
   rotate_left
   ·rw [if_neg c12] at H
    exact absurd H (by simp)
   rw [if_pos c12] at H
   have LMc12 := Aside0.mk c12
   clear c12
   obtain ⟨y127, hy127⟩ : ∃ y_ : List (List Int), y_ = (x121001_1 ++ [y124]) := ⟨_, rfl⟩
   replace H : (spec_l1Cur_bay.l0 k1 (wrap64 (x4_1 - 1)) s0_0 t122 t123 (wrap64 (1 + t117)) y127) = some (r1, r2, r3, r4) := by first | (rw [hy127]; with_reducible exact H) | (have H2_ := (Option.bind_some _ _).symm.trans H; rw [hy127]; with_reducible exact H2_) | (have H2_ := (Option.bind_some _ _).symm.trans H; with_reducible exact H2_) | with_reducible exact H | (rw [hy127]; exact H) | exact H
   have Ny127 := Aside0.mk hy127
   clear hy127
   have H' := Aside0.mk H
   clear H
   have hnb13 := NB120_116.out
   have hnc13 := NB116_120.out
   have hnb14 := NB120_0.out
   have hnc14 := NB0_120.out
   have hcz15_0 : wr.cell? ⟨gb120, 0, none⟩ = some (.int .i64 (wrap64 (1 + t117))) := (blk_cell BK120.out 0).trans rfl
   have hcz15_1 : wr.cell? ⟨gb120, 1, none⟩ = some (u121001) := (blk_cell BK120.out 1).trans rfl
   have hfz15_0 := blk_frozen BK120.out 0
   have hfz15_1 := blk_frozen BK120.out 1
   go_wp2_with (first | ((with_reducible refine gate_dst (N := 23) rfl ?_); (try (refine gate_guard (by rfl) ?_; dsimp only)); refine Kd.R_lit (Kd.int .i64) _ 3 ?hg (N := 23) ?hd (xs := ([] : List Int)) (inner := []) (ok := fun _ => True) (okp := fun _ => True) ?hr ?hp (fun _ hk => hk) trivial (Below.refl _ _) (Nat.le_refl _) (by simp) ?_; (case hd => rfl); (case hg => rfl); (case hr => first | (go_simp; done) | (go_simp; rfl)); (case hp => exact (Reps.none _ _)); intro v125 w16 ho17 hb hg_ hnew_; clear hg_ hnew_; (first | rw [← Ny124.out] at ho17 | (simp only [Int.reduceToNat] at ho17; rw [← Ny124.out] at ho17)); have n0_ := Aside0.mk (Kd.S_elder' (sdl HO_121001) (Kd.R_base ho17) hb); have n1_ := Aside0.mk (Kd.R_lower ho17 (keep_size (w := w) (g := g) (row := none) (by repeat (first | (with_reducible first | exact HK.out | apply KeepBut.set_ | apply keep_drewN | apply keep_drew | apply keep_alloc | refine keep_far ?_ GW116.out _ | refine keep_far ?_ GW120.out _) | exact HK.out)))); have n2_ := Aside0.mk (blk_below (g := gb116) (o := .cells #[.int .i64 0, .slice none 0 0] 26 (0, 0)) (bkl BK116) hb); have n3_ := Aside0.mk (blk_below (g := gb120) (o := .cells #[.int .i64 (wrap64 (1 + t117)), u121001] 26 (0, 0)) (bkl BK120) hb); have n4_ := Aside0.mk (IsS44.below (by repeat (first | (with_reducible first | exact HI0.out | apply IsS44.alloc | apply IsS44.drewN | apply IsS44.drew | apply IsS44.set_1 | apply IsS44.set_2 | refine IsS44.far ?_ NB0_116.out _ | refine IsS44.far ?_ NB0_120.out _) | exact HI0.out)) hb); have n5_ := Aside0.mk (KeepBut.trans (by repeat (first | (with_reducible first | exact HK.out | apply KeepBut.set_ | apply keep_drewN | apply keep_drew | apply keep_alloc | refine keep_far ?_ GW116.out _ | refine keep_far ?_ GW120.out _) | exact HK.out)) (KeepBut.of_below hb g none) (.inl rfl)); have n6_ := Aside0.mk (below_step (by repeat (first | (with_reducible first | exact HB.out | apply below_alloc | apply pw_below_drewN | apply below_drew1 | refine below_set ?_ (IsS44.ge HI0.out) | refine below_set ?_ GE116.out | refine below_set ?_ GE120.out) | exact HB.out)) hb); clear HO_121001; clear BK116; clear BK120; clear HI0; clear HK; clear HB; have HO_121001 := n0_; have HO126 := n1_; have BK116 := n2_; have BK120 := n3_; have HI0 := n4_; have HK := n5_; have HB := n6_; clear n0_ n1_ n2_ n3_ n4_ n5_ n6_; clear hb ho17; obtain ⟨Ao19, co19, eo19⟩ := Kd.R_slice HO126.out; subst eo19) | ((with_reducible refine gate_builtin (b := .append) (xs := #[.tmp 22, .tmp 24]) rfl ?_); (try (refine gate_guard (by rfl) ?_; dsimp only)); at_builtin; refine Kd.S_append (Kd.slice 3 (Kd.int .i64)) w.heap.size rfl (.tmp 22) (.tmp 24) 24 48 (.slice none 0 0) 24 rfl Tryz.underlying24 info48 rfl (by decide) (by omega) u121001 x121001_1 y124 [.slice Ao19 y124.length co19] (fun _ => True) (fun k_ => some k_ = (.slice Ao19 y124.length co19 : Value).ownBlock) rfl rfl ?aP (fun k_ hk_ => ((Kd.R_mono (ok' := fun k_ => ((fun _ => True)) k_ ∧ some k_ ≠ (u121001 : Value).ownBlock) (Kd.R_apart' (HO126.out) (Kd.S_typed HO_121001.out) (by decide)) (fun k_ hk => ⟨trivial, hk.2⟩))).1 k_ hk_.symm) ?aF ?aO (Below.refl _ _) ?aS ?aL ?_; (case aP => exact Kd.M_row (Kd.R_mono (Kd.R_tight rfl (Kd.R_mono (ok' := fun k_ => ((fun _ => True)) k_ ∧ some k_ ≠ (u121001 : Value).ownBlock) (Kd.R_apart' (HO126.out) (Kd.S_typed HO_121001.out) (by decide)) (fun k_ hk => ⟨trivial, hk.2⟩))) (fun _ h_ => h_))); (case aF => exact (fun _ _ => trivial)); (case aO => exact (by (with_reducible repeat (first | apply Kd.S_alloc | apply Kd.S_drewN | apply Kd.S_drew)); exact Kd.S_mono HO_121001.out (fun k_ hk => ⟨trivial, fun e_ => hk.2 e_⟩))); (case aS => exact (keep_size (w := w) (g := g) (row := none) (by repeat (first | (with_reducible first | exact HK.out | apply KeepBut.set_ | apply keep_drewN | apply keep_drew | apply keep_alloc | refine keep_far ?_ GW116.out _ | refine keep_far ?_ GW120.out _) | exact HK.out)))); (case aL => have := LMc12.out; omega); intro v128 w18 ho hb hg hat; rw [← Ny127.out] at ho; have n0_ := Aside0.mk (blk_grown (g := gb116) (o := .cells #[.int .i64 0, .slice none 0 0] 26 (0, 0)) (bkl BK116) hg (Kd.S_ne HO_121001.out BK116.out (by decide))); have n1_ := Aside0.mk (blk_grown (g := gb120) (o := .cells #[.int .i64 (wrap64 (1 + t117)), u121001] 26 (0, 0)) (bkl BK120) hg (Kd.S_ne HO_121001.out BK120.out (by decide))); have n2_ := Aside0.mk (IsS44.grown (by repeat (first | (with_reducible first | exact HI0.out | apply IsS44.alloc | apply IsS44.drewN | apply IsS44.drew | apply IsS44.set_1 | apply IsS44.set_2 | refine IsS44.far ?_ NB0_116.out _ | refine IsS44.far ?_ NB0_120.out _) | exact HI0.out)) hg (IsS44.own_neS HI0.out HO_121001.out (by decide))); have n3_ := Aside0.mk (below_weaken (by repeat (first | (with_reducible first | exact HB.out | apply below_alloc | apply pw_below_drewN | apply below_drew1 | refine below_set ?_ (IsS44.ge HI0.out) | refine below_set ?_ GE116.out | refine below_set ?_ GE120.out) | exact HB.out)) HL.out hb); have n4_ := Aside0.mk (KeepBut.trans (by repeat (first | (with_reducible first | exact HK.out | apply KeepBut.set_ | apply keep_drewN | apply keep_drew | apply keep_alloc | refine keep_far ?_ GW116.out _ | refine keep_far ?_ GW120.out _) | exact HK.out)) (KeepBut.of_grown hg g) (Kd.S_base2 HO_121001.out)); have n5_ := Aside0.mk (ho); clear BK116; clear BK120; clear HI0; clear HB; clear HK; clear HO_121001; clear HO126; have BK116 := n0_; have BK120 := n1_; have HI0 := n2_; have HB := n3_; have HK := n4_; have HO129 := n5_; clear n0_ n1_ n2_ n3_ n4_ n5_; clear ho hb hg hat; obtain ⟨Ao20, co20, eo20⟩ := Kd.S_slice HO129.out; subst eo20; have hcz21_0 : w18.cell? ⟨gb120, 0, none⟩ = some (.int .i64 (wrap64 (1 + t117))) := (blk_cell BK120.out 0).trans rfl; have hcz21_1 : w18.cell? ⟨gb120, 1, none⟩ = some (u121001) := (blk_cell BK120.out 1).trans rfl; have hfz21_0 := blk_frozen BK120.out 0; have hfz21_1 := blk_frozen BK120.out 1))
   go_roundg k1
   case measure => have := HK1.out; omega
   case rel => exact ⟨(wrap64 (x4_1 - 1)), (y127), (.slice Ao20 y127.length co20), (by first | rfl | (simp; done) | (simp [*]; done)), H', ⟨by have := HK1.out; omega⟩, ⟨by (with_reducible repeat (first | apply Kd.S_alloc | apply Kd.S_drewN | apply Kd.S_drew)); exact Kd.S_mono (Kd.S_far (p := ⟨gb120, 1, none⟩) (Kd.S_types HO129.out BK120.out (by decide)) (fun _ hk => hk.2) (.slice Ao20 y127.length co20)) (fun _ hk => trivial)⟩, ⟨by (with_reducible repeat (first | refine blk_drewN ?_ _ | refine blk_drew ?_ | refine blk_alloc ?_ _)); refine blk_far ?_ NB116_120.out _; (with_reducible repeat (first | refine blk_drewN ?_ _ | refine blk_drew ?_ | refine blk_alloc ?_ _)); exact BK116.out⟩, ⟨by (with_reducible repeat (first | refine blk_drewN ?_ _ | refine blk_drew ?_ | refine blk_alloc ?_ _)); refine blk_put (cs := #[.int .i64 (wrap64 (1 + t117)), u121001]) ?_ 1 _ rfl; (with_reducible repeat (first | refine blk_drewN ?_ _ | refine blk_drew ?_ | refine blk_alloc ?_ _)); exact BK120.out⟩, ⟨by repeat (first | (with_reducible first | exact HI0.out | apply IsS44.alloc | apply IsS44.drewN | apply IsS44.drew | apply IsS44.set_1 | apply IsS44.set_2 | refine IsS44.far ?_ NB0_116.out _ | refine IsS44.far ?_ NB0_120.out _) | exact HI0.out)⟩, ⟨by repeat (first | (with_reducible first | exact HK.out | apply KeepBut.set_ | apply keep_drewN | apply keep_drew | apply keep_alloc | refine keep_far ?_ GW116.out _ | refine keep_far ?_ GW120.out _) | exact HK.out)⟩, ⟨by repeat (first | (with_reducible first | exact HB.out | apply below_alloc | apply pw_below_drewN | apply below_drew1 | refine below_set ?_ (IsS44.ge HI0.out) | refine below_set ?_ GE116.out | refine below_set ?_ GE120.out) | exact HB.out)⟩⟩
  rw [if_neg c11] at H
  have c11b0 : decide (0 < x4_1) = false := decide_eq_false c11
  clear c11
  replace H := Option.bind_eq_some_iff.mp H
  obtain ⟨⟨t130, t131, t132⟩, A220, H⟩ := H
  replace H : (spec_l1Cur_bay.l1 k1 t130 s0_0 t131 t132 (wrap64 (1 + t117)) x121001_1) = some (r1, r2, r3, r4) := H
  have A22 := Aside0.mk A220
  clear A220
  have H' := Aside0.mk H
  clear H
  go_wp2_with (first | ((with_reducible refine gate_callee (f := 17) rfl ?_); refine goesL_ (some 28) rfl rfl Tryz.func17 (by kernel_rfl) rfl #[.pointer (some ⟨g, 0, none⟩), .int .i64 9] rfl gmp ?_; (with_reducible refine (spec_l1Cur_pick.calls g s0_0 t122 t123 9 t130 t131 t132 w0 _ ?side1 ?side2 A22.out).mono ?_); (case side1 => repeat (first | (with_reducible first | exact HI0.out | apply IsS44.alloc | apply IsS44.drewN | apply IsS44.drew | apply IsS44.set_1 | apply IsS44.set_2 | refine IsS44.far ?_ NB0_116.out _ | refine IsS44.far ?_ NB0_120.out _) | exact HI0.out)); (case side2 => repeat (first | (with_reducible first | exact HB.out | apply below_alloc | apply pw_below_drewN | apply below_drew1 | refine below_set ?_ (IsS44.ge HI0.out) | refine below_set ?_ GE116.out | refine below_set ?_ GE120.out) | exact HB.out)); rintro e w23 ⟨rfl, hi, hb, hk⟩; refine ⟨_, rfl, ?_⟩; have n0_ := Aside0.mk (Kd.S_mono (Kd.S_keep (IsS44.apartS (show IsS44 w0 _ g s0_0 t122 t123 from by repeat (first | (with_reducible first | exact HI0.out | apply IsS44.alloc | apply IsS44.drewN | apply IsS44.drew | apply IsS44.set_1 | apply IsS44.set_2 | refine IsS44.far ?_ NB0_116.out _ | refine IsS44.far ?_ NB0_120.out _) | exact HI0.out)) (sdl HO_121001) (by decide)) hk (fun _ h => h.2)) (fun _ h => h.1)); have n1_ := Aside0.mk (KeepBut.blk hk (g' := gb116) (o := .cells #[.int .i64 0, .slice none 0 0] 26 (0, 0)) (bkl BK116) NB116_0.out (by simp)); have n2_ := Aside0.mk (KeepBut.blk hk (g' := gb120) (o := .cells #[.int .i64 (wrap64 (1 + t117)), u121001] 26 (0, 0)) (bkl BK120) NB120_0.out (by simp)); have n3_ := Aside0.mk (KeepBut.trans (by repeat (first | (with_reducible first | exact HK.out | apply KeepBut.set_ | apply keep_drewN | apply keep_drew | apply keep_alloc | refine keep_far ?_ GW116.out _ | refine keep_far ?_ GW120.out _) | exact HK.out)) hk (.inl rfl)); have n4_ := Aside0.mk (hb); have n5_ := Aside0.mk (hi); clear HO_121001; clear BK116; clear BK120; clear HK; clear HB; clear HI0; have HO_121001 := n0_; have BK116 := n1_; have BK120 := n2_; have HK := n3_; have HB := n4_; have HI0 := n5_; clear n0_ n1_ n2_ n3_ n4_ n5_; (try clear hb); (try clear hb2); (try clear hk); (try clear hi)))
  go_loopg [5] k1 (fun kq v5 w' => ∃ (x5_2 : Int) (x1001_2 : Int) (x1002_2 : Int) (x121001_2 : List (List Int)) (u121001 : Value), v5 = .int .i64 x5_2 ∧ Aside0 (spec_l1Cur_bay.l1 kq x5_2 s0_0 x1001_2 x1002_2 (wrap64 (1 + t117)) x121001_2 = some (r1, r2, r3, r4)) ∧ Aside0 (kq ≤ k1) ∧ Aside0 (Kd.S (Kd.slice 3 (Kd.int .i64)) 48 w' w.heap.size (fun _ => True) u121001 x121001_2) ∧ Aside0 (w'.heap[gb116]? = some (.cells #[.int .i64 0, (.slice none 0 0)] 26 (0, 0))) ∧ Aside0 (w'.heap[gb120]? = some (.cells #[.int .i64 (wrap64 (1 + t117)), u121001] 26 (0, 0))) ∧ Aside0 (IsS44 w0 w' g s0_0 x1001_2 x1002_2) ∧ Aside0 (KeepBut w w' g none) ∧ Aside0 (Below w0.heap.size w0 w'))
  case atStart => exact ⟨(t130), (t131), (t132), (x121001_1), (u121001), (by first | rfl | (simp; done) | (simp [*]; done)), H', ⟨Nat.le_refl _⟩, ⟨sdl HO_121001⟩, ⟨bkl BK116⟩, ⟨bkl BK120⟩, ⟨by repeat (first | (with_reducible first | exact HI0.out | apply IsS44.alloc | apply IsS44.drewN | apply IsS44.drew | apply IsS44.set_1 | apply IsS44.set_2 | refine IsS44.far ?_ NB0_116.out _ | refine IsS44.far ?_ NB0_120.out _) | exact HI0.out)⟩, ⟨by repeat (first | (with_reducible first | exact HK.out | apply KeepBut.set_ | apply keep_drewN | apply keep_drew | apply keep_alloc | refine keep_far ?_ GW116.out _ | refine keep_far ?_ GW120.out _) | exact HK.out)⟩, ⟨by repeat (first | (with_reducible first | exact HB.out | apply below_alloc | apply pw_below_drewN | apply below_drew1 | refine below_set ?_ (IsS44.ge HI0.out) | refine below_set ?_ GE116.out | refine below_set ?_ GE120.out) | exact HB.out)⟩⟩
  clear H'
  try clear c1
  try clear p2
  try clear c3
  try clear p6
  try clear c7
  try clear c8
  try clear c11
  try clear c11b0
  try clear c12
  try clear c13
  try clear c14
  try clear c17
  try clear hcz15_0
  try clear hcz15_1
  try clear hcz21_0
  try clear hcz21_1
  try clear hcz9_0
  try clear hcz9_1
  try clear hfz15_0
  try clear hfz15_1
  try clear hfz21_0
  try clear hfz21_1
  try clear hfz9_0
  try clear hfz9_1
  try clear p2
  try clear p6
  obtain ⟨x5_2, x1001_2, x1002_2, x121001_2, u121001, rfl, HA, HK2, HO_121001, BK116, BK120, HI0, HK, HB⟩ := hrel
  cases gk with
  | zero => exact absurd HA.out (by simp [spec_l1Cur_bay.l1])
  | succ k2 =>
   have H := HA.out
   clear HA
   simp only [spec_l1Cur_bay.l1] at H
   by_cases c24 : x5_2 > 0
   rotate_left
   ·rw [if_neg c24] at H
    have c24b0 : decide (0 < x5_2) = false := decide_eq_false c24
    clear c24
    simp only [Option.some.injEq, Prod.mk.injEq] at H
    obtain ⟨rfl, rfl, rfl, rfl⟩ := H
    have hnb67 := NB120_116.out
    have hnc67 := NB116_120.out
    have hnb68 := NB120_0.out
    have hnc68 := NB0_120.out
    have hcz69_0 : wr.cell? ⟨gb120, 0, none⟩ = some (.int .i64 (wrap64 (1 + t117))) := (blk_cell BK120.out 0).trans rfl
    have hcz69_1 : wr.cell? ⟨gb120, 1, none⟩ = some (u121001) := (blk_cell BK120.out 1).trans rfl
    have hfz69_0 := blk_frozen BK120.out 0
    have hfz69_1 := blk_frozen BK120.out 1
    have hnb70 := NB116_0.out
    have hnc70 := NB0_116.out
    have hcz71_0 : wr.cell? ⟨gb116, 0, none⟩ = some (.int .i64 0) := (blk_cell BK116.out 0).trans rfl
    have hcz71_1 : wr.cell? ⟨gb116, 1, none⟩ = some (.slice none 0 0) := (blk_cell BK116.out 1).trans rfl
    have hfz71_0 := blk_frozen BK116.out 0
    have hfz71_1 := blk_frozen BK116.out 1
    obtain ⟨Ao72, co72, eo72⟩ := Kd.S_slice HO_121001.out
    subst eo72
    go_wp2
    refine bodyPost_ret (results_cell_row rfl _ _ gb116 26 #[.int .i64 (wrap64 (1 + t117)), .slice Ao72 x121001_2.length co72] (0, 0) _ rfl (by (with_reducible repeat (first | refine blk_drewN ?_ _ | refine blk_drew ?_ | refine blk_alloc ?_ _)); refine blk_put (cs := #[.int .i64 (wrap64 (1 + t117)), .slice none 0 0]) ?_ 1 _ rfl; (with_reducible repeat (first | refine blk_drewN ?_ _ | refine blk_drew ?_ | refine blk_alloc ?_ _)); refine blk_put (cs := #[.int .i64 0, .slice none 0 0]) ?_ 0 _ rfl; (with_reducible repeat (first | refine blk_drewN ?_ _ | refine blk_drew ?_ | refine blk_alloc ?_ _)); exact BK116.out) Tryz.underlying26 rfl (by kernel_rfl)) rfl ?_
    exact ⟨_, by first | rfl | (simp [errW_none, errW_some] <;> rfl) | (simp [*, errW_none, errW_some] <;> rfl), by (with_reducible repeat (first | apply Kd.S_alloc | apply Kd.S_drewN | apply Kd.S_drew)); exact Kd.S_mono (Kd.S_far (p := ⟨gb116, 1, none⟩) (Kd.S_far (p := ⟨gb116, 0, none⟩) (Kd.S_types HO_121001.out BK116.out (by decide)) (fun _ hk => hk.2) (.int .i64 (wrap64 (1 + t117)))) (fun _ hk => hk.2) (.slice Ao72 x121001_2.length co72)) (fun _ hk => trivial), by repeat (first | (with_reducible first | exact HI0.out | apply IsS44.alloc | apply IsS44.drewN | apply IsS44.drew | apply IsS44.set_1 | apply IsS44.set_2 | refine IsS44.far ?_ NB0_116.out _ | refine IsS44.far ?_ NB0_120.out _) | exact HI0.out), by repeat (first | (with_reducible first | exact HB.out | apply below_alloc | apply pw_below_drewN | apply below_drew1 | refine below_set ?_ (IsS44.ge HI0.out) | refine below_set ?_ GE116.out | refine below_set ?_ GE120.out) | exact HB.out), by repeat (first | (with_reducible first | exact HK.out | apply KeepBut.set_ | apply keep_drewN | apply keep_drew | apply keep_alloc | refine keep_far ?_ GW116.out _ | refine keep_far ?_ GW120.out _) | exact HK.out)⟩
   rw [if_pos c24] at H
   have c24b0 : decide (0 < x5_2) = true := decide_eq_true c24
   clear c24
   replace H := Option.bind_eq_some_iff.mp H
   obtain ⟨⟨t133, t134, t135⟩, A250, H⟩ := H
   replace H : ((spec_l1Cur_pick.f s0_0 t134 t135 3).bind fun bt136 => ((spec_l9Find.f k2 (wrap64 (1 + t117)) x121001_2 (wrap64 (1 + (Int.tmod (wrap64 ((wrap64 (7 * x5_2)) + (wrap64 (bt136.1 * 31)))) 99)))).bind fun bt139 => (if bt139.1 < 0 then (if 0 ≤ t133 then (if t133 < (x121001_2.length : Int) then (if ((rd_L2 x121001_2 t133).length : Int) < (wrap64 (1 + t117)) then (if (rd_L2 x121001_2 t133).length < 17592186044416 then (spec_l1Cur_bay.l1 k2 (wrap64 (x5_2 - 1)) s0_0 bt136.2.1 bt136.2.2 (wrap64 (1 + t117)) (x121001_2.set (t133 : Int).toNat ((rd_L2 x121001_2 t133) ++ [wrap64 (1 + (Int.tmod (wrap64 ((wrap64 (7 * x5_2)) + (wrap64 (bt136.1 * 31)))) 99))]))) else (none)) else (spec_l1Cur_bay.l1 k2 (wrap64 (x5_2 - 1)) s0_0 bt136.2.1 bt136.2.2 (wrap64 (1 + t117)) x121001_2)) else (none)) else (none)) else (spec_l1Cur_bay.l1 k2 (wrap64 (x5_2 - 1)) s0_0 bt136.2.1 bt136.2.2 (wrap64 (1 + t117)) x121001_2)))) = some (r1, r2, r3, r4) := H
   have A25 := Aside0.mk A250
   clear A250
   replace H := Option.bind_eq_some_iff.mp H
   obtain ⟨⟨t136, t137, t138⟩, A260, H⟩ := H
   replace H : ((spec_l9Find.f k2 (wrap64 (1 + t117)) x121001_2 (wrap64 (1 + (Int.tmod (wrap64 ((wrap64 (7 * x5_2)) + (wrap64 (t136 * 31)))) 99)))).bind fun bt139 => (if bt139.1 < 0 then (if 0 ≤ t133 then (if t133 < (x121001_2.length : Int) then (if ((rd_L2 x121001_2 t133).length : Int) < (wrap64 (1 + t117)) then (if (rd_L2 x121001_2 t133).length < 17592186044416 then (spec_l1Cur_bay.l1 k2 (wrap64 (x5_2 - 1)) s0_0 t137 t138 (wrap64 (1 + t117)) (x121001_2.set (t133 : Int).toNat ((rd_L2 x121001_2 t133) ++ [wrap64 (1 + (Int.tmod (wrap64 ((wrap64 (7 * x5_2)) + (wrap64 (t136 * 31)))) 99))]))) else (none)) else (spec_l1Cur_bay.l1 k2 (wrap64 (x5_2 - 1)) s0_0 t137 t138 (wrap64 (1 + t117)) x121001_2)) else (none)) else (none)) else (spec_l1Cur_bay.l1 k2 (wrap64 (x5_2 - 1)) s0_0 t137 t138 (wrap64 (1 + t117)) x121001_2))) = some (r1, r2, r3, r4) := H
   have A26 := Aside0.mk A260
   clear A260
   replace H := Option.bind_eq_some_iff.mp H
   obtain ⟨⟨t139, t140⟩, A270, H⟩ := H
   replace H : (if t139 < 0 then (if 0 ≤ t133 then (if t133 < (x121001_2.length : Int) then (if ((rd_L2 x121001_2 t133).length : Int) < (wrap64 (1 + t117)) then (if (rd_L2 x121001_2 t133).length < 17592186044416 then (spec_l1Cur_bay.l1 k2 (wrap64 (x5_2 - 1)) s0_0 t137 t138 (wrap64 (1 + t117)) (x121001_2.set (t133 : Int).toNat ((rd_L2 x121001_2 t133) ++ [wrap64 (1 + (Int.tmod (wrap64 ((wrap64 (7 * x5_2)) + (wrap64 (t136 * 31)))) 99))]))) else (none)) else (spec_l1Cur_bay.l1 k2 (wrap64 (x5_2 - 1)) s0_0 t137 t138 (wrap64 (1 + t117)) x121001_2)) else (none)) else (none)) else (spec_l1Cur_bay.l1 k2 (wrap64 (x5_2 - 1)) s0_0 t137 t138 (wrap64 (1 + t117)) x121001_2)) = some (r1, r2, r3, r4) := H
   have A27 := Aside0.mk A270
   clear A270
   by_cases c28 : t139 < 0
   rotate_left
   ·rw [if_neg c28] at H
    have c28b0 : decide (t139 < 0) = false := decide_eq_false c28
    clear c28
    have H' := Aside0.mk H
    clear H
    have hnb58 := NB120_116.out
    have hnc58 := NB116_120.out
    have hnb59 := NB120_0.out
    have hnc59 := NB0_120.out
    have hcz60_0 : wr.cell? ⟨gb120, 0, none⟩ = some (.int .i64 (wrap64 (1 + t117))) := (blk_cell BK120.out 0).trans rfl
    have hcz60_1 : wr.cell? ⟨gb120, 1, none⟩ = some (u121001) := (blk_cell BK120.out 1).trans rfl
    have hfz60_0 := blk_frozen BK120.out 0
    have hfz60_1 := blk_frozen BK120.out 1
    obtain ⟨Ao61, co61, eo61⟩ := Kd.S_slice HO_121001.out
    subst eo61
    try go_wp2_with (first | ((with_reducible refine gate_callee (f := 17) rfl ?_); refine goesL_ (some 37) rfl rfl Tryz.func17 (by kernel_rfl) rfl #[.pointer (some ⟨g, 0, none⟩), .int .i64 (x121001_2.length : Int)] rfl gmp ?_; (with_reducible refine (spec_l1Cur_pick.calls g s0_0 x1001_2 x1002_2 (x121001_2.length : Int) t133 t134 t135 w0 _ ?side1 ?side2 A25.out).mono ?_); (case side1 => repeat (first | (with_reducible first | exact HI0.out | apply IsS44.alloc | apply IsS44.drewN | apply IsS44.drew | apply IsS44.set_1 | apply IsS44.set_2 | refine IsS44.far ?_ NB0_116.out _ | refine IsS44.far ?_ NB0_120.out _) | exact HI0.out)); (case side2 => repeat (first | (with_reducible first | exact HB.out | apply below_alloc | apply pw_below_drewN | apply below_drew1 | refine below_set ?_ (IsS44.ge HI0.out) | refine below_set ?_ GE116.out | refine below_set ?_ GE120.out) | exact HB.out)); rintro e w62 ⟨rfl, hi, hb, hk⟩; refine ⟨_, rfl, ?_⟩; have n0_ := Aside0.mk (Kd.S_mono (Kd.S_keep (IsS44.apartS (show IsS44 w0 _ g s0_0 x1001_2 x1002_2 from by repeat (first | (with_reducible first | exact HI0.out | apply IsS44.alloc | apply IsS44.drewN | apply IsS44.drew | apply IsS44.set_1 | apply IsS44.set_2 | refine IsS44.far ?_ NB0_116.out _ | refine IsS44.far ?_ NB0_120.out _) | exact HI0.out)) (sdl HO_121001) (by decide)) hk (fun _ h => h.2)) (fun _ h => h.1)); have n1_ := Aside0.mk (KeepBut.blk hk (g' := gb116) (o := .cells #[.int .i64 0, .slice none 0 0] 26 (0, 0)) (bkl BK116) NB116_0.out (by simp)); have n2_ := Aside0.mk (KeepBut.blk hk (g' := gb120) (o := .cells #[.int .i64 (wrap64 (1 + t117)), .slice Ao61 x121001_2.length co61] 26 (0, 0)) (bkl BK120) NB120_0.out (by simp)); have n3_ := Aside0.mk (KeepBut.trans (by repeat (first | (with_reducible first | exact HK.out | apply KeepBut.set_ | apply keep_drewN | apply keep_drew | apply keep_alloc | refine keep_far ?_ GW116.out _ | refine keep_far ?_ GW120.out _) | exact HK.out)) hk (.inl rfl)); have n4_ := Aside0.mk (hb); have n5_ := Aside0.mk (hi); clear HO_121001; clear BK116; clear BK120; clear HK; clear HB; clear HI0; have HO_121001 := n0_; have BK116 := n1_; have BK120 := n2_; have HK := n3_; have HB := n4_; have HI0 := n5_; clear n0_ n1_ n2_ n3_ n4_ n5_; (try clear hb); (try clear hb2); (try clear hk); (try clear hi)) | ((with_reducible refine gate_callee (f := 17) rfl ?_); refine goesL_ (some 41) rfl rfl Tryz.func17 (by kernel_rfl) rfl #[.pointer (some ⟨g, 0, none⟩), .int .i64 3] rfl gmp ?_; (with_reducible refine (spec_l1Cur_pick.calls g s0_0 t134 t135 3 t136 t137 t138 w0 _ ?side1 ?side2 A26.out).mono ?_); (case side1 => repeat (first | (with_reducible first | exact HI0.out | apply IsS44.alloc | apply IsS44.drewN | apply IsS44.drew | apply IsS44.set_1 | apply IsS44.set_2 | refine IsS44.far ?_ NB0_116.out _ | refine IsS44.far ?_ NB0_120.out _) | exact HI0.out)); (case side2 => repeat (first | (with_reducible first | exact HB.out | apply below_alloc | apply pw_below_drewN | apply below_drew1 | refine below_set ?_ (IsS44.ge HI0.out) | refine below_set ?_ GE116.out | refine below_set ?_ GE120.out) | exact HB.out)); rintro e w63 ⟨rfl, hi, hb, hk⟩; refine ⟨_, rfl, ?_⟩; have n0_ := Aside0.mk (Kd.S_mono (Kd.S_keep (IsS44.apartS (show IsS44 w0 _ g s0_0 t134 t135 from by repeat (first | (with_reducible first | exact HI0.out | apply IsS44.alloc | apply IsS44.drewN | apply IsS44.drew | apply IsS44.set_1 | apply IsS44.set_2 | refine IsS44.far ?_ NB0_116.out _ | refine IsS44.far ?_ NB0_120.out _) | exact HI0.out)) (sdl HO_121001) (by decide)) hk (fun _ h => h.2)) (fun _ h => h.1)); have n1_ := Aside0.mk (KeepBut.blk hk (g' := gb116) (o := .cells #[.int .i64 0, .slice none 0 0] 26 (0, 0)) (bkl BK116) NB116_0.out (by simp)); have n2_ := Aside0.mk (KeepBut.blk hk (g' := gb120) (o := .cells #[.int .i64 (wrap64 (1 + t117)), .slice Ao61 x121001_2.length co61] 26 (0, 0)) (bkl BK120) NB120_0.out (by simp)); have n3_ := Aside0.mk (KeepBut.trans (by repeat (first | (with_reducible first | exact HK.out | apply KeepBut.set_ | apply keep_drewN | apply keep_drew | apply keep_alloc | refine keep_far ?_ GW116.out _ | refine keep_far ?_ GW120.out _) | exact HK.out)) hk (.inl rfl)); have n4_ := Aside0.mk (hb); have n5_ := Aside0.mk (hi); clear HO_121001; clear BK116; clear BK120; clear HK; clear HB; clear HI0; have HO_121001 := n0_; have BK116 := n1_; have BK120 := n2_; have HK := n3_; have HB := n4_; have HI0 := n5_; clear n0_ n1_ n2_ n3_ n4_ n5_; (try clear hb); (try clear hb2); (try clear hk); (try clear hi); have hcz64_0 : w63.cell? ⟨gb120, 0, none⟩ = some (.int .i64 (wrap64 (1 + t117))) := (blk_cell BK120.out 0).trans rfl; have hcz64_1 : w63.cell? ⟨gb120, 1, none⟩ = some (.slice Ao61 x121001_2.length co61) := (blk_cell BK120.out 1).trans rfl; have hfz64_0 := blk_frozen BK120.out 0; have hfz64_1 := blk_frozen BK120.out 1) | ((with_reducible refine gate_callee (f := 52) rfl ?_); refine goesL_ (some 49) rfl rfl Tryz.func52 (by kernel_rfl) rfl #[.agg #[.int .i64 (wrap64 (1 + t117)), .slice Ao61 x121001_2.length co61], .int .i64 (wrap64 (1 + (Int.tmod (wrap64 ((wrap64 (7 * x5_2)) + (wrap64 (t136 * 31)))) 99)))] rfl gmp ?_; (with_reducible refine (spec_l9Find.calls k2 (wrap64 (1 + t117)) _ _ x121001_2 (wrap64 (1 + (Int.tmod (wrap64 ((wrap64 (7 * x5_2)) + (wrap64 (t136 * 31)))) 99))) t139 t140 _ ?side1 ?side2 A27.out).mono ?_); (case side1 => exact cdl (Kd.S_reads' HO_121001.out).2.2); (case side2 => exact (Kd.S_reads' HO_121001.out).2.1); rintro e w65 ⟨rfl, hb⟩; refine ⟨_, rfl, ?_⟩; have n0_ := Aside0.mk (Kd.S_below (sdl HO_121001) hb); have n1_ := Aside0.mk (blk_below (g := gb116) (o := .cells #[.int .i64 0, .slice none 0 0] 26 (0, 0)) (bkl BK116) hb); have n2_ := Aside0.mk (blk_below (g := gb120) (o := .cells #[.int .i64 (wrap64 (1 + t117)), .slice Ao61 x121001_2.length co61] 26 (0, 0)) (bkl BK120) hb); have n3_ := Aside0.mk (IsS44.below (by repeat (first | (with_reducible first | exact HI0.out | apply IsS44.alloc | apply IsS44.drewN | apply IsS44.drew | apply IsS44.set_1 | apply IsS44.set_2 | refine IsS44.far ?_ NB0_116.out _ | refine IsS44.far ?_ NB0_120.out _) | exact HI0.out)) hb); have n4_ := Aside0.mk (KeepBut.trans (by repeat (first | (with_reducible first | exact HK.out | apply KeepBut.set_ | apply keep_drewN | apply keep_drew | apply keep_alloc | refine keep_far ?_ GW116.out _ | refine keep_far ?_ GW120.out _) | exact HK.out)) (KeepBut.of_below hb g none) (.inl rfl)); have n5_ := Aside0.mk (below_step (by repeat (first | (with_reducible first | exact HB.out | apply below_alloc | apply pw_below_drewN | apply below_drew1 | refine below_set ?_ (IsS44.ge HI0.out) | refine below_set ?_ GE116.out | refine below_set ?_ GE120.out) | exact HB.out)) hb); clear HO_121001; clear BK116; clear BK120; clear HI0; clear HK; clear HB; have HO_121001 := n0_; have BK116 := n1_; have BK120 := n2_; have HI0 := n3_; have HK := n4_; have HB := n5_; clear n0_ n1_ n2_ n3_ n4_ n5_; (try clear hb); (try clear hb2); (try clear hk); (try clear hi)))
    have n0_ := Aside0.mk (Kd.S_drew HO_121001.out)
    have n1_ := Aside0.mk (blk_drew BK116.out)
    have n2_ := Aside0.mk (blk_drew BK120.out)
    have n3_ := Aside0.mk (IsS44.drew HI0.out)
    have n4_ := Aside0.mk (keep_drew HK.out)
    have n5_ := Aside0.mk (below_drew1 HB.out)
    clear HO_121001 BK116 BK120 HI0 HK HB
    have HO_121001 := n0_
    have BK116 := n1_
    have BK120 := n2_
    have HI0 := n3_
    have HK := n4_
    have HB := n5_
    clear n0_ n1_ n2_ n3_ n4_ n5_
    refine start_ (n := 13) (S := fun w' => True) (ds := []) #[false, false, false, false, false, false, false, false, false, false, false, false, false] (by kernel_rfl) rfl rfl trivial (fun hHeld => ?_); refine with_tabW spec_l1Cur_bay.tab12 spec_l1Cur_bay.bits12 (fun HT_ HW_ => ?_)
    generalize w65.drew = w66 at HO_121001 BK116 BK120 HI0 HK HB hHeld ⊢
    refine pure_ (i := 0) (N := some 52) (v := ?_) (a' := ?_) #[true, false, false, false, false, false, false, false, false, false, false, false, false] rfl rfl (any_of HT_.out (by kernel_rfl)) (fun _ _ _ h => h) (Or.inl ⟨by rfl, ?_⟩) ?_ ?_
    rotate_left
    ·intro w'
     go_simp
     with_reducible rfl
    rotate_left
    ·simp only [putS]
     rfl
    refine pure_ (i := 1) (N := some 53) (v := ?_) (a' := ?_) #[true, true, false, false, false, false, false, false, false, false, false, false, false] rfl rfl (any_of HT_.out (by kernel_rfl)) (fun _ _ _ h => h) (Or.inl ⟨by rfl, ?_⟩) ?_ ?_
    rotate_left
    ·intro w'
     go_simp
     with_reducible rfl
    rotate_left
    ·simp only [putS]
     rfl
    refine pure_ (i := 2) (N := some 54) (v := ?_) (a' := ?_) #[true, true, true, false, false, false, false, false, false, false, false, false, false] rfl rfl (any_of HT_.out (by kernel_rfl)) (fun _ _ _ h => h) (Or.inl ⟨by rfl, ?_⟩) ?_ ?_
    rotate_left
    ·intro w'
     go_simp
     with_reducible rfl
    rotate_left
    ·simp only [putS]
     rfl
    refine pure_ (i := 3) (N := some 55) (v := undef) (a' := ?_) #[true, true, true, true, false, false, false, false, false, false, false, false, false] rfl rfl (any_of HT_.out (by kernel_rfl)) (fun _ _ _ h => h) (Or.inr ⟨by rfl, rfl⟩) ?_ ?_
    rotate_left
    ·simp only [putS]
     rfl
    refine pure_ (i := 4) (N := some 56) (v := undef) (a' := ?_) #[true, true, true, true, true, false, false, false, false, false, false, false, false] rfl rfl (any_of HT_.out (by kernel_rfl)) (fun _ _ _ h => h) (Or.inr ⟨by rfl, rfl⟩) ?_ ?_
    rotate_left
    ·simp only [putS]
     rfl
    refine pure_ (i := 5) (N := some 57) (v := undef) (a' := ?_) #[true, true, true, true, true, true, false, false, false, false, false, false, false] rfl rfl (any_of HT_.out (by kernel_rfl)) (fun _ _ _ h => h) (Or.inr ⟨by rfl, rfl⟩) ?_ ?_
    rotate_left
    ·simp only [putS]
     rfl
    refine pure_ (i := 6) (N := some 58) (v := undef) (a' := ?_) #[true, true, true, true, true, true, true, false, false, false, false, false, false] rfl rfl (any_of HT_.out (by kernel_rfl)) (fun _ _ _ h => h) (Or.inr ⟨by rfl, rfl⟩) ?_ ?_
    rotate_left
    ·simp only [putS]
     rfl
    refine pure_ (i := 7) (N := some 59) (v := undef) (a' := ?_) #[true, true, true, true, true, true, true, true, false, false, false, false, false] rfl rfl (any_of HT_.out (by kernel_rfl)) (fun _ _ _ h => h) (Or.inr ⟨by rfl, rfl⟩) ?_ ?_
    rotate_left
    ·simp only [putS]
     rfl
    refine pure_ (i := 8) (N := some 60) (v := undef) (a' := ?_) #[true, true, true, true, true, true, true, true, true, false, false, false, false] rfl rfl (any_of HT_.out (by kernel_rfl)) (fun _ _ _ h => h) (Or.inr ⟨by rfl, rfl⟩) ?_ ?_
    rotate_left
    ·simp only [putS]
     rfl
    refine pure_ (i := 9) (N := some 61) (v := undef) (a' := ?_) #[true, true, true, true, true, true, true, true, true, true, false, false, false] rfl rfl (any_of HT_.out (by kernel_rfl)) (fun _ _ _ h => h) (Or.inr ⟨by rfl, rfl⟩) ?_ ?_
    rotate_left
    ·simp only [putS]
     rfl
    refine pure_ (i := 10) (N := some 62) (v := undef) (a' := ?_) #[true, true, true, true, true, true, true, true, true, true, true, false, false] rfl rfl (any_of HT_.out (by kernel_rfl)) (fun _ _ _ h => h) (Or.inr ⟨by rfl, rfl⟩) ?_ ?_
    rotate_left
    ·simp only [putS]
     rfl
    refine pure_ (i := 11) (N := some 63) (v := undef) (a' := ?_) #[true, true, true, true, true, true, true, true, true, true, true, true, false] rfl rfl (any_of HT_.out (by kernel_rfl)) (fun _ _ _ h => h) (Or.inr ⟨by rfl, rfl⟩) ?_ ?_
    rotate_left
    ·simp only [putS]
     rfl
    refine pure_ (i := 12) (N := some 64) (v := ?_) (a' := ?_) #[true, true, true, true, true, true, true, true, true, true, true, true, true] rfl rfl (any_of HT_.out (by kernel_rfl)) (fun _ _ _ h => h) (Or.inl ⟨by rfl, ?_⟩) ?_ ?_
    rotate_left
    ·intro w'
     go_simp
     with_reducible rfl
    rotate_left
    ·simp only [putS]
     rfl
    refine done_ (done_of HT_.out (by kernel_rfl)) ?_
    try go_wp2
    go_roundg k2
    case measure => have := HK1.out; have := HK2.out; omega
    case rel => exact ⟨(wrap64 (x5_2 - 1)), (t137), (t138), (x121001_2), (.slice Ao61 x121001_2.length co61), (by first | rfl | (simp; done) | (simp [*]; done)), H', ⟨by have := HK1.out; have := HK2.out; omega⟩, ⟨sdl HO_121001⟩, ⟨bkl BK116⟩, ⟨bkl BK120⟩, ⟨by repeat (first | (with_reducible first | exact HI0.out | apply IsS44.alloc | apply IsS44.drewN | apply IsS44.drew | apply IsS44.set_1 | apply IsS44.set_2 | refine IsS44.far ?_ NB0_116.out _ | refine IsS44.far ?_ NB0_120.out _) | exact HI0.out)⟩, ⟨by repeat (first | (with_reducible first | exact HK.out | apply KeepBut.set_ | apply keep_drewN | apply keep_drew | apply keep_alloc | refine keep_far ?_ GW116.out _ | refine keep_far ?_ GW120.out _) | exact HK.out)⟩, ⟨by repeat (first | (with_reducible first | exact HB.out | apply below_alloc | apply pw_below_drewN | apply below_drew1 | refine below_set ?_ (IsS44.ge HI0.out) | refine below_set ?_ GE116.out | refine below_set ?_ GE120.out) | exact HB.out)⟩⟩
   rw [if_pos c28] at H
   have c28b0 : decide (t139 < 0) = true := decide_eq_true c28
   clear c28
   by_cases c29 : 0 ≤ t133
   rotate_left
   ·rw [if_neg c29] at H
    exact absurd H (by simp)
   rw [if_pos c29] at H
   have c29b0 : decide (0 ≤ t133) = true := decide_eq_true c29
   clear c29
   by_cases c30 : t133 < (x121001_2.length : Int)
   rotate_left
   ·rw [if_neg c30] at H
    exact absurd H (by simp)
   rw [if_pos c30] at H
   have c30b0 : decide (t133 < (x121001_2.length : Int)) = true := decide_eq_true c30
   clear c30
   by_cases c31 : ((rd_L2 x121001_2 t133).length : Int) < (wrap64 (1 + t117))
   rotate_left
   ·rw [if_neg c31] at H
    have c31b0 : decide (((rd_L2 x121001_2 t133).length : Int) < (wrap64 (1 + t117))) = false := decide_eq_false c31
    clear c31
    have H' := Aside0.mk H
    clear H
    have hnb49 := NB120_116.out
    have hnc49 := NB116_120.out
    have hnb50 := NB120_0.out
    have hnc50 := NB0_120.out
    have hcz51_0 : wr.cell? ⟨gb120, 0, none⟩ = some (.int .i64 (wrap64 (1 + t117))) := (blk_cell BK120.out 0).trans rfl
    have hcz51_1 : wr.cell? ⟨gb120, 1, none⟩ = some (u121001) := (blk_cell BK120.out 1).trans rfl
    have hfz51_0 := blk_frozen BK120.out 0
    have hfz51_1 := blk_frozen BK120.out 1
    obtain ⟨Ao52, co52, eo52⟩ := Kd.S_slice HO_121001.out
    subst eo52
    try go_wp2_with (first | ((with_reducible refine gate_callee (f := 17) rfl ?_); refine goesL_ (some 37) rfl rfl Tryz.func17 (by kernel_rfl) rfl #[.pointer (some ⟨g, 0, none⟩), .int .i64 (x121001_2.length : Int)] rfl gmp ?_; (with_reducible refine (spec_l1Cur_pick.calls g s0_0 x1001_2 x1002_2 (x121001_2.length : Int) t133 t134 t135 w0 _ ?side1 ?side2 A25.out).mono ?_); (case side1 => repeat (first | (with_reducible first | exact HI0.out | apply IsS44.alloc | apply IsS44.drewN | apply IsS44.drew | apply IsS44.set_1 | apply IsS44.set_2 | refine IsS44.far ?_ NB0_116.out _ | refine IsS44.far ?_ NB0_120.out _) | exact HI0.out)); (case side2 => repeat (first | (with_reducible first | exact HB.out | apply below_alloc | apply pw_below_drewN | apply below_drew1 | refine below_set ?_ (IsS44.ge HI0.out) | refine below_set ?_ GE116.out | refine below_set ?_ GE120.out) | exact HB.out)); rintro e w53 ⟨rfl, hi, hb, hk⟩; refine ⟨_, rfl, ?_⟩; have n0_ := Aside0.mk (Kd.S_mono (Kd.S_keep (IsS44.apartS (show IsS44 w0 _ g s0_0 x1001_2 x1002_2 from by repeat (first | (with_reducible first | exact HI0.out | apply IsS44.alloc | apply IsS44.drewN | apply IsS44.drew | apply IsS44.set_1 | apply IsS44.set_2 | refine IsS44.far ?_ NB0_116.out _ | refine IsS44.far ?_ NB0_120.out _) | exact HI0.out)) (sdl HO_121001) (by decide)) hk (fun _ h => h.2)) (fun _ h => h.1)); have n1_ := Aside0.mk (KeepBut.blk hk (g' := gb116) (o := .cells #[.int .i64 0, .slice none 0 0] 26 (0, 0)) (bkl BK116) NB116_0.out (by simp)); have n2_ := Aside0.mk (KeepBut.blk hk (g' := gb120) (o := .cells #[.int .i64 (wrap64 (1 + t117)), .slice Ao52 x121001_2.length co52] 26 (0, 0)) (bkl BK120) NB120_0.out (by simp)); have n3_ := Aside0.mk (KeepBut.trans (by repeat (first | (with_reducible first | exact HK.out | apply KeepBut.set_ | apply keep_drewN | apply keep_drew | apply keep_alloc | refine keep_far ?_ GW116.out _ | refine keep_far ?_ GW120.out _) | exact HK.out)) hk (.inl rfl)); have n4_ := Aside0.mk (hb); have n5_ := Aside0.mk (hi); clear HO_121001; clear BK116; clear BK120; clear HK; clear HB; clear HI0; have HO_121001 := n0_; have BK116 := n1_; have BK120 := n2_; have HK := n3_; have HB := n4_; have HI0 := n5_; clear n0_ n1_ n2_ n3_ n4_ n5_; (try clear hb); (try clear hb2); (try clear hk); (try clear hi)) | ((with_reducible refine gate_callee (f := 17) rfl ?_); refine goesL_ (some 41) rfl rfl Tryz.func17 (by kernel_rfl) rfl #[.pointer (some ⟨g, 0, none⟩), .int .i64 3] rfl gmp ?_; (with_reducible refine (spec_l1Cur_pick.calls g s0_0 t134 t135 3 t136 t137 t138 w0 _ ?side1 ?side2 A26.out).mono ?_); (case side1 => repeat (first | (with_reducible first | exact HI0.out | apply IsS44.alloc | apply IsS44.drewN | apply IsS44.drew | apply IsS44.set_1 | apply IsS44.set_2 | refine IsS44.far ?_ NB0_116.out _ | refine IsS44.far ?_ NB0_120.out _) | exact HI0.out)); (case side2 => repeat (first | (with_reducible first | exact HB.out | apply below_alloc | apply pw_below_drewN | apply below_drew1 | refine below_set ?_ (IsS44.ge HI0.out) | refine below_set ?_ GE116.out | refine below_set ?_ GE120.out) | exact HB.out)); rintro e w54 ⟨rfl, hi, hb, hk⟩; refine ⟨_, rfl, ?_⟩; have n0_ := Aside0.mk (Kd.S_mono (Kd.S_keep (IsS44.apartS (show IsS44 w0 _ g s0_0 t134 t135 from by repeat (first | (with_reducible first | exact HI0.out | apply IsS44.alloc | apply IsS44.drewN | apply IsS44.drew | apply IsS44.set_1 | apply IsS44.set_2 | refine IsS44.far ?_ NB0_116.out _ | refine IsS44.far ?_ NB0_120.out _) | exact HI0.out)) (sdl HO_121001) (by decide)) hk (fun _ h => h.2)) (fun _ h => h.1)); have n1_ := Aside0.mk (KeepBut.blk hk (g' := gb116) (o := .cells #[.int .i64 0, .slice none 0 0] 26 (0, 0)) (bkl BK116) NB116_0.out (by simp)); have n2_ := Aside0.mk (KeepBut.blk hk (g' := gb120) (o := .cells #[.int .i64 (wrap64 (1 + t117)), .slice Ao52 x121001_2.length co52] 26 (0, 0)) (bkl BK120) NB120_0.out (by simp)); have n3_ := Aside0.mk (KeepBut.trans (by repeat (first | (with_reducible first | exact HK.out | apply KeepBut.set_ | apply keep_drewN | apply keep_drew | apply keep_alloc | refine keep_far ?_ GW116.out _ | refine keep_far ?_ GW120.out _) | exact HK.out)) hk (.inl rfl)); have n4_ := Aside0.mk (hb); have n5_ := Aside0.mk (hi); clear HO_121001; clear BK116; clear BK120; clear HK; clear HB; clear HI0; have HO_121001 := n0_; have BK116 := n1_; have BK120 := n2_; have HK := n3_; have HB := n4_; have HI0 := n5_; clear n0_ n1_ n2_ n3_ n4_ n5_; (try clear hb); (try clear hb2); (try clear hk); (try clear hi); have hcz55_0 : w54.cell? ⟨gb120, 0, none⟩ = some (.int .i64 (wrap64 (1 + t117))) := (blk_cell BK120.out 0).trans rfl; have hcz55_1 : w54.cell? ⟨gb120, 1, none⟩ = some (.slice Ao52 x121001_2.length co52) := (blk_cell BK120.out 1).trans rfl; have hfz55_0 := blk_frozen BK120.out 0; have hfz55_1 := blk_frozen BK120.out 1) | ((with_reducible refine gate_callee (f := 52) rfl ?_); refine goesL_ (some 49) rfl rfl Tryz.func52 (by kernel_rfl) rfl #[.agg #[.int .i64 (wrap64 (1 + t117)), .slice Ao52 x121001_2.length co52], .int .i64 (wrap64 (1 + (Int.tmod (wrap64 ((wrap64 (7 * x5_2)) + (wrap64 (t136 * 31)))) 99)))] rfl gmp ?_; (with_reducible refine (spec_l9Find.calls k2 (wrap64 (1 + t117)) _ _ x121001_2 (wrap64 (1 + (Int.tmod (wrap64 ((wrap64 (7 * x5_2)) + (wrap64 (t136 * 31)))) 99))) t139 t140 _ ?side1 ?side2 A27.out).mono ?_); (case side1 => exact cdl (Kd.S_reads' HO_121001.out).2.2); (case side2 => exact (Kd.S_reads' HO_121001.out).2.1); rintro e w56 ⟨rfl, hb⟩; refine ⟨_, rfl, ?_⟩; have n0_ := Aside0.mk (Kd.S_below (sdl HO_121001) hb); have n1_ := Aside0.mk (blk_below (g := gb116) (o := .cells #[.int .i64 0, .slice none 0 0] 26 (0, 0)) (bkl BK116) hb); have n2_ := Aside0.mk (blk_below (g := gb120) (o := .cells #[.int .i64 (wrap64 (1 + t117)), .slice Ao52 x121001_2.length co52] 26 (0, 0)) (bkl BK120) hb); have n3_ := Aside0.mk (IsS44.below (by repeat (first | (with_reducible first | exact HI0.out | apply IsS44.alloc | apply IsS44.drewN | apply IsS44.drew | apply IsS44.set_1 | apply IsS44.set_2 | refine IsS44.far ?_ NB0_116.out _ | refine IsS44.far ?_ NB0_120.out _) | exact HI0.out)) hb); have n4_ := Aside0.mk (KeepBut.trans (by repeat (first | (with_reducible first | exact HK.out | apply KeepBut.set_ | apply keep_drewN | apply keep_drew | apply keep_alloc | refine keep_far ?_ GW116.out _ | refine keep_far ?_ GW120.out _) | exact HK.out)) (KeepBut.of_below hb g none) (.inl rfl)); have n5_ := Aside0.mk (below_step (by repeat (first | (with_reducible first | exact HB.out | apply below_alloc | apply pw_below_drewN | apply below_drew1 | refine below_set ?_ (IsS44.ge HI0.out) | refine below_set ?_ GE116.out | refine below_set ?_ GE120.out) | exact HB.out)) hb); clear HO_121001; clear BK116; clear BK120; clear HI0; clear HK; clear HB; have HO_121001 := n0_; have BK116 := n1_; have BK120 := n2_; have HI0 := n3_; have HK := n4_; have HB := n5_; clear n0_ n1_ n2_ n3_ n4_ n5_; (try clear hb); (try clear hb2); (try clear hk); (try clear hi)))
    have n0_ := Aside0.mk (Kd.S_drew HO_121001.out)
    have n1_ := Aside0.mk (blk_drew BK116.out)
    have n2_ := Aside0.mk (blk_drew BK120.out)
    have n3_ := Aside0.mk (IsS44.drew HI0.out)
    have n4_ := Aside0.mk (keep_drew HK.out)
    have n5_ := Aside0.mk (below_drew1 HB.out)
    clear HO_121001 BK116 BK120 HI0 HK HB
    have HO_121001 := n0_
    have BK116 := n1_
    have BK120 := n2_
    have HI0 := n3_
    have HK := n4_
    have HB := n5_
    clear n0_ n1_ n2_ n3_ n4_ n5_
    have p141 : 0 ≤ (t133 : Int) := oda
    have q141 : t133 < (x121001_2.length : Int) := oda
    obtain ⟨ad141, A141_0, c141_0, e141, hx141_0, hl141_0, hi141_0⟩ := at_L2 (Kd.S_reads' HO_121001.out).2.2 t133 p141 q141
    cases e141
    obtain ⟨ce141, hce141, hMe141, hcc141⟩ := Kd.S_get HO_121001.out [] t133 p141 (by first | exact q141 | exact oda | (have e_ := (Kd.S_reads' HO_121001.out).1; omega))
    obtain ⟨ve141_0, rfl, ge141_0⟩ := hMe141
    have hv141_0 := hcc141 0 _ rfl
    rw [Nat.add_zero, show ((Kd.slice 3 (Kd.int .i64))).sz = 1 from rfl, Nat.mul_one] at hv141_0
    replace hv141_0 := Option.some.inj (hv141_0.symm.trans hx141_0)
    rw [hv141_0] at ge141_0
    have HL141_0 := Aside0.mk (show Kd.R (Kd.int .i64) 3 _ _ _ _ (rd_L2 x121001_2 t133) from ge141_0)
    clear hv141_0 ge141_0
    have HX141_0 := Aside0.mk hx141_0
    clear hcc141 hce141
    have HR141_0 := Aside0.mk hi141_0
    have HC141_0 := Aside0.mk hl141_0
    clear hi141_0 hl141_0
    replace p141 := eq_true p141
    replace q141 := eq_true q141
    refine start_ (n := 13) (S := fun w' => w'.cell? ⟨gb120, 0, none⟩ = some (.int .i64 (wrap64 (1 + t117))) ∧ w'.cell? ⟨gb120, 1, none⟩ = some (.slice (some ad141) x121001_2.length co52) ∧ w'.cell? (ad141.add (t133).toNat) = some (.slice A141_0 (rd_L2 x121001_2 t133).length c141_0)) (ds := []) #[false, false, false, false, false, false, false, false, false, false, false, false, false] (by kernel_rfl) rfl rfl ⟨(blk_cell BK120.out 0).trans rfl, (blk_cell BK120.out 1).trans rfl, hx141_0⟩ (fun hHeld => ?_); refine with_tabW spec_l1Cur_bay.tab12 spec_l1Cur_bay.bits12 (fun HT_ HW_ => ?_)
    generalize w56.drew = w57 at HO_121001 BK116 BK120 HI0 HK HB HL141_0 HR141_0 HX141_0 hx141_0 hHeld ⊢
    refine pure_ (i := 0) (N := some 52) (v := ?_) (a' := ?_) #[true, false, false, false, false, false, false, false, false, false, false, false, false] rfl rfl (any_of HT_.out (by kernel_rfl)) (fun _ _ _ h => h) (Or.inl ⟨by rfl, ?_⟩) ?_ ?_
    rotate_left
    ·intro w'
     go_simp
     with_reducible rfl
    rotate_left
    ·simp only [putS]
     rfl
    refine pure_ (i := 1) (N := some 53) (v := ?_) (a' := ?_) #[true, true, false, false, false, false, false, false, false, false, false, false, false] rfl rfl (any_of HT_.out (by kernel_rfl)) (fun _ _ _ h => h) (Or.inl ⟨by rfl, ?_⟩) ?_ ?_
    rotate_left
    ·intro w'
     go_simp
     with_reducible rfl
    rotate_left
    ·simp only [putS]
     rfl
    refine pure_ (i := 2) (N := some 54) (v := ?_) (a' := ?_) #[true, true, true, false, false, false, false, false, false, false, false, false, false] rfl rfl (any_of HT_.out (by kernel_rfl)) (fun _ _ _ h => h) (Or.inl ⟨by rfl, ?_⟩) ?_ ?_
    rotate_left
    ·intro w'
     go_simp
     with_reducible rfl
    rotate_left
    ·simp only [putS]
     rfl
    refine pure_ (i := 3) (N := some 55) (v := ?_) (a' := ?_) #[true, true, true, true, false, false, false, false, false, false, false, false, false] rfl rfl (any_of HT_.out (by kernel_rfl)) (fun _ _ _ h => h) (Or.inl ⟨by rfl, ?_⟩) ?_ ?_
    rotate_left
    ·intro w'
     go_simp
     with_reducible rfl
    rotate_left
    ·simp only [putS]
     rfl
    refine pure_ (i := 5) (N := some 57) (v := ?_) (a' := ?_) #[true, true, true, true, false, true, false, false, false, false, false, false, false] rfl rfl (any_of HT_.out (by kernel_rfl)) (fun _ _ _ h => h) (Or.inl ⟨by rfl, ?_⟩) ?_ ?_
    rotate_left
    ·intro w'
     go_simp
     with_reducible rfl
    rotate_left
    ·simp only [putS]
     rfl
    refine pure_ (i := 9) (N := some 61) (v := ?_) (a' := ?_) #[true, true, true, true, false, true, false, false, false, true, false, false, false] rfl rfl (any_of HT_.out (by kernel_rfl)) (fun _ _ _ h => h) (Or.inl ⟨by rfl, ?_⟩) ?_ ?_
    rotate_left
    ·intro w'
     go_simp
     with_reducible rfl
    rotate_left
    ·simp only [putS]
     rfl
    refine take_ (i := 4) (N := some 56) (v := ?_) (a' := ?_) #[true, true, true, true, true, true, false, false, false, true, false, false, false] rfl rfl (take_ofW HT_.out HW_.out (by kernel_rfl)) (fun _ _ _ h => h) (Or.inl ⟨by rfl, ?_⟩) hHeld ?_ ?_
    rotate_left
    ·rintro w' ⟨s0, s1, s2⟩
     go_simp
     with_reducible rfl
    rotate_left
    ·simp only [putS]
     rfl
    refine pure_ (i := 6) (N := some 58) (v := ?_) (a' := ?_) #[true, true, true, true, true, true, true, false, false, true, false, false, false] rfl rfl (any_of HT_.out (by kernel_rfl)) (fun _ _ _ h => h) (Or.inl ⟨by rfl, ?_⟩) ?_ ?_
    rotate_left
    ·intro w'
     go_simp
     with_reducible rfl
    rotate_left
    ·simp only [putS]
     rfl
    refine take_ (i := 7) (N := some 59) (v := ?_) (a' := ?_) #[true, true, true, true, true, true, true, true, false, true, false, false, false] rfl rfl (take_ofW HT_.out HW_.out (by kernel_rfl)) (fun _ _ _ h => h) (Or.inl ⟨by rfl, ?_⟩) hHeld ?_ ?_
    rotate_left
    ·rintro w' ⟨s0, s1, s2⟩
     go_simp
     with_reducible rfl
    rotate_left
    ·simp only [putS]
     rfl
    refine pure_ (i := 8) (N := some 60) (v := ?_) (a' := ?_) #[true, true, true, true, true, true, true, true, true, true, false, false, false] rfl rfl (any_of HT_.out (by kernel_rfl)) (fun _ _ _ h => h) (Or.inl ⟨by rfl, ?_⟩) ?_ ?_
    rotate_left
    ·intro w'
     go_simp
     with_reducible rfl
    rotate_left
    ·simp only [putS]
     rfl
    refine take_ (i := 10) (N := some 62) (v := ?_) (a' := ?_) #[true, true, true, true, true, true, true, true, true, true, true, false, false] rfl rfl (take_ofW HT_.out HW_.out (by kernel_rfl)) (fun _ _ _ h => h) (Or.inl ⟨by rfl, ?_⟩) hHeld ?_ ?_
    rotate_left
    ·rintro w' ⟨s0, s1, s2⟩
     go_simp
     with_reducible rfl
    rotate_left
    ·simp only [putS]
     rfl
    refine pure_ (i := 11) (N := some 63) (v := ?_) (a' := ?_) #[true, true, true, true, true, true, true, true, true, true, true, true, false] rfl rfl (any_of HT_.out (by kernel_rfl)) (fun _ _ _ h => h) (Or.inl ⟨by rfl, ?_⟩) ?_ ?_
    rotate_left
    ·intro w'
     go_simp
     with_reducible rfl
    rotate_left
    ·simp only [putS]
     rfl
    refine pure_ (i := 12) (N := some 64) (v := ?_) (a' := ?_) #[true, true, true, true, true, true, true, true, true, true, true, true, true] rfl rfl (any_of HT_.out (by kernel_rfl)) (fun _ _ _ h => h) (Or.inl ⟨by rfl, ?_⟩) ?_ ?_
    rotate_left
    ·intro w'
     go_simp
     with_reducible rfl
    rotate_left
    ·simp only [putS]
     rfl
    refine done_ (done_of HT_.out (by kernel_rfl)) ?_
    try go_wp2
    go_roundg k2
    case measure => have := HK1.out; have := HK2.out; omega
    case rel => exact ⟨(wrap64 (x5_2 - 1)), (t137), (t138), (x121001_2), (.slice (some ad141) x121001_2.length co52), (by first | rfl | (simp; done) | (simp [*]; done)), H', ⟨by have := HK1.out; have := HK2.out; omega⟩, ⟨sdl HO_121001⟩, ⟨bkl BK116⟩, ⟨bkl BK120⟩, ⟨by repeat (first | (with_reducible first | exact HI0.out | apply IsS44.alloc | apply IsS44.drewN | apply IsS44.drew | apply IsS44.set_1 | apply IsS44.set_2 | refine IsS44.far ?_ NB0_116.out _ | refine IsS44.far ?_ NB0_120.out _) | exact HI0.out)⟩, ⟨by repeat (first | (with_reducible first | exact HK.out | apply KeepBut.set_ | apply keep_drewN | apply keep_drew | apply keep_alloc | refine keep_far ?_ GW116.out _ | refine keep_far ?_ GW120.out _) | exact HK.out)⟩, ⟨by repeat (first | (with_reducible first | exact HB.out | apply below_alloc | apply pw_below_drewN | apply below_drew1 | refine below_set ?_ (IsS44.ge HI0.out) | refine below_set ?_ GE116.out | refine below_set ?_ GE120.out) | exact HB.out)⟩⟩
   rw [if_pos c31] at H
   have c31b0 : decide (((rd_L2 x121001_2 t133).length : Int) < (wrap64 (1 + t117))) = true := decide_eq_true c31
   clear c31
   by_cases c32 : (rd_L2 x121001_2 t133).length < 17592186044416
   rotate_left
   ·rw [if_neg c32] at H
    exact absurd H (by simp)
   rw [if_pos c32] at H
   have LMc32 := Aside0.mk c32
   clear c32
   obtain ⟨y143, hy143⟩ : ∃ y_ : List Int, y_ = ((rd_L2 x121001_2 t133) ++ [wrap64 (1 + (Int.tmod (wrap64 ((wrap64 (7 * x5_2)) + (wrap64 (t136 * 31)))) 99))]) := ⟨_, rfl⟩
   replace H : (spec_l1Cur_bay.l1 k2 (wrap64 (x5_2 - 1)) s0_0 t137 t138 (wrap64 (1 + t117)) (x121001_2.set (t133 : Int).toNat y143)) = some (r1, r2, r3, r4) := by first | (rw [hy143]; with_reducible exact H) | (have H2_ := (Option.bind_some _ _).symm.trans H; rw [hy143]; with_reducible exact H2_) | (have H2_ := (Option.bind_some _ _).symm.trans H; with_reducible exact H2_) | with_reducible exact H | (rw [hy143]; exact H) | exact H
   have Ny143 := Aside0.mk hy143
   clear hy143
   obtain ⟨y146, hy146⟩ : ∃ y_ : List (List Int), y_ = (x121001_2.set (t133 : Int).toNat y143) := ⟨_, rfl⟩
   replace H : (spec_l1Cur_bay.l1 k2 (wrap64 (x5_2 - 1)) s0_0 t137 t138 (wrap64 (1 + t117)) y146) = some (r1, r2, r3, r4) := by first | (rw [hy146]; with_reducible exact H) | (have H2_ := (Option.bind_some _ _).symm.trans H; rw [hy146]; with_reducible exact H2_) | (have H2_ := (Option.bind_some _ _).symm.trans H; with_reducible exact H2_) | with_reducible exact H | (rw [hy146]; exact H) | exact H
   have Ny146 := Aside0.mk hy146
   clear hy146
   have H' := Aside0.mk H
   clear H
   have hnb34 := NB120_116.out
   have hnc34 := NB116_120.out
   have hnb35 := NB120_0.out
   have hnc35 := NB0_120.out
   have hcz36_0 : wr.cell? ⟨gb120, 0, none⟩ = some (.int .i64 (wrap64 (1 + t117))) := (blk_cell BK120.out 0).trans rfl
   have hcz36_1 : wr.cell? ⟨gb120, 1, none⟩ = some (u121001) := (blk_cell BK120.out 1).trans rfl
   have hfz36_0 := blk_frozen BK120.out 0
   have hfz36_1 := blk_frozen BK120.out 1
   obtain ⟨Ao37, co37, eo37⟩ := Kd.S_slice HO_121001.out
   subst eo37
   try go_wp2_with (first | ((with_reducible refine gate_callee (f := 17) rfl ?_); refine goesL_ (some 37) rfl rfl Tryz.func17 (by kernel_rfl) rfl #[.pointer (some ⟨g, 0, none⟩), .int .i64 (x121001_2.length : Int)] rfl gmp ?_; (with_reducible refine (spec_l1Cur_pick.calls g s0_0 x1001_2 x1002_2 (x121001_2.length : Int) t133 t134 t135 w0 _ ?side1 ?side2 A25.out).mono ?_); (case side1 => repeat (first | (with_reducible first | exact HI0.out | apply IsS44.alloc | apply IsS44.drewN | apply IsS44.drew | apply IsS44.set_1 | apply IsS44.set_2 | refine IsS44.far ?_ NB0_116.out _ | refine IsS44.far ?_ NB0_120.out _) | exact HI0.out)); (case side2 => repeat (first | (with_reducible first | exact HB.out | apply below_alloc | apply pw_below_drewN | apply below_drew1 | refine below_set ?_ (IsS44.ge HI0.out) | refine below_set ?_ GE116.out | refine below_set ?_ GE120.out) | exact HB.out)); rintro e w38 ⟨rfl, hi, hb, hk⟩; refine ⟨_, rfl, ?_⟩; have n0_ := Aside0.mk (Kd.S_mono (Kd.S_keep (IsS44.apartS (show IsS44 w0 _ g s0_0 x1001_2 x1002_2 from by repeat (first | (with_reducible first | exact HI0.out | apply IsS44.alloc | apply IsS44.drewN | apply IsS44.drew | apply IsS44.set_1 | apply IsS44.set_2 | refine IsS44.far ?_ NB0_116.out _ | refine IsS44.far ?_ NB0_120.out _) | exact HI0.out)) (sdl HO_121001) (by decide)) hk (fun _ h => h.2)) (fun _ h => h.1)); have n1_ := Aside0.mk (KeepBut.blk hk (g' := gb116) (o := .cells #[.int .i64 0, .slice none 0 0] 26 (0, 0)) (bkl BK116) NB116_0.out (by simp)); have n2_ := Aside0.mk (KeepBut.blk hk (g' := gb120) (o := .cells #[.int .i64 (wrap64 (1 + t117)), .slice Ao37 x121001_2.length co37] 26 (0, 0)) (bkl BK120) NB120_0.out (by simp)); have n3_ := Aside0.mk (KeepBut.trans (by repeat (first | (with_reducible first | exact HK.out | apply KeepBut.set_ | apply keep_drewN | apply keep_drew | apply keep_alloc | refine keep_far ?_ GW116.out _ | refine keep_far ?_ GW120.out _) | exact HK.out)) hk (.inl rfl)); have n4_ := Aside0.mk (hb); have n5_ := Aside0.mk (hi); clear HO_121001; clear BK116; clear BK120; clear HK; clear HB; clear HI0; have HO_121001 := n0_; have BK116 := n1_; have BK120 := n2_; have HK := n3_; have HB := n4_; have HI0 := n5_; clear n0_ n1_ n2_ n3_ n4_ n5_; (try clear hb); (try clear hb2); (try clear hk); (try clear hi)) | ((with_reducible refine gate_callee (f := 17) rfl ?_); refine goesL_ (some 41) rfl rfl Tryz.func17 (by kernel_rfl) rfl #[.pointer (some ⟨g, 0, none⟩), .int .i64 3] rfl gmp ?_; (with_reducible refine (spec_l1Cur_pick.calls g s0_0 t134 t135 3 t136 t137 t138 w0 _ ?side1 ?side2 A26.out).mono ?_); (case side1 => repeat (first | (with_reducible first | exact HI0.out | apply IsS44.alloc | apply IsS44.drewN | apply IsS44.drew | apply IsS44.set_1 | apply IsS44.set_2 | refine IsS44.far ?_ NB0_116.out _ | refine IsS44.far ?_ NB0_120.out _) | exact HI0.out)); (case side2 => repeat (first | (with_reducible first | exact HB.out | apply below_alloc | apply pw_below_drewN | apply below_drew1 | refine below_set ?_ (IsS44.ge HI0.out) | refine below_set ?_ GE116.out | refine below_set ?_ GE120.out) | exact HB.out)); rintro e w39 ⟨rfl, hi, hb, hk⟩; refine ⟨_, rfl, ?_⟩; have n0_ := Aside0.mk (Kd.S_mono (Kd.S_keep (IsS44.apartS (show IsS44 w0 _ g s0_0 t134 t135 from by repeat (first | (with_reducible first | exact HI0.out | apply IsS44.alloc | apply IsS44.drewN | apply IsS44.drew | apply IsS44.set_1 | apply IsS44.set_2 | refine IsS44.far ?_ NB0_116.out _ | refine IsS44.far ?_ NB0_120.out _) | exact HI0.out)) (sdl HO_121001) (by decide)) hk (fun _ h => h.2)) (fun _ h => h.1)); have n1_ := Aside0.mk (KeepBut.blk hk (g' := gb116) (o := .cells #[.int .i64 0, .slice none 0 0] 26 (0, 0)) (bkl BK116) NB116_0.out (by simp)); have n2_ := Aside0.mk (KeepBut.blk hk (g' := gb120) (o := .cells #[.int .i64 (wrap64 (1 + t117)), .slice Ao37 x121001_2.length co37] 26 (0, 0)) (bkl BK120) NB120_0.out (by simp)); have n3_ := Aside0.mk (KeepBut.trans (by repeat (first | (with_reducible first | exact HK.out | apply KeepBut.set_ | apply keep_drewN | apply keep_drew | apply keep_alloc | refine keep_far ?_ GW116.out _ | refine keep_far ?_ GW120.out _) | exact HK.out)) hk (.inl rfl)); have n4_ := Aside0.mk (hb); have n5_ := Aside0.mk (hi); clear HO_121001; clear BK116; clear BK120; clear HK; clear HB; clear HI0; have HO_121001 := n0_; have BK116 := n1_; have BK120 := n2_; have HK := n3_; have HB := n4_; have HI0 := n5_; clear n0_ n1_ n2_ n3_ n4_ n5_; (try clear hb); (try clear hb2); (try clear hk); (try clear hi); have hcz40_0 : w39.cell? ⟨gb120, 0, none⟩ = some (.int .i64 (wrap64 (1 + t117))) := (blk_cell BK120.out 0).trans rfl; have hcz40_1 : w39.cell? ⟨gb120, 1, none⟩ = some (.slice Ao37 x121001_2.length co37) := (blk_cell BK120.out 1).trans rfl; have hfz40_0 := blk_frozen BK120.out 0; have hfz40_1 := blk_frozen BK120.out 1) | ((with_reducible refine gate_callee (f := 52) rfl ?_); refine goesL_ (some 49) rfl rfl Tryz.func52 (by kernel_rfl) rfl #[.agg #[.int .i64 (wrap64 (1 + t117)), .slice Ao37 x121001_2.length co37], .int .i64 (wrap64 (1 + (Int.tmod (wrap64 ((wrap64 (7 * x5_2)) + (wrap64 (t136 * 31)))) 99)))] rfl gmp ?_; (with_reducible refine (spec_l9Find.calls k2 (wrap64 (1 + t117)) _ _ x121001_2 (wrap64 (1 + (Int.tmod (wrap64 ((wrap64 (7 * x5_2)) + (wrap64 (t136 * 31)))) 99))) t139 t140 _ ?side1 ?side2 A27.out).mono ?_); (case side1 => exact cdl (Kd.S_reads' HO_121001.out).2.2); (case side2 => exact (Kd.S_reads' HO_121001.out).2.1); rintro e w41 ⟨rfl, hb⟩; refine ⟨_, rfl, ?_⟩; have n0_ := Aside0.mk (Kd.S_below (sdl HO_121001) hb); have n1_ := Aside0.mk (blk_below (g := gb116) (o := .cells #[.int .i64 0, .slice none 0 0] 26 (0, 0)) (bkl BK116) hb); have n2_ := Aside0.mk (blk_below (g := gb120) (o := .cells #[.int .i64 (wrap64 (1 + t117)), .slice Ao37 x121001_2.length co37] 26 (0, 0)) (bkl BK120) hb); have n3_ := Aside0.mk (IsS44.below (by repeat (first | (with_reducible first | exact HI0.out | apply IsS44.alloc | apply IsS44.drewN | apply IsS44.drew | apply IsS44.set_1 | apply IsS44.set_2 | refine IsS44.far ?_ NB0_116.out _ | refine IsS44.far ?_ NB0_120.out _) | exact HI0.out)) hb); have n4_ := Aside0.mk (KeepBut.trans (by repeat (first | (with_reducible first | exact HK.out | apply KeepBut.set_ | apply keep_drewN | apply keep_drew | apply keep_alloc | refine keep_far ?_ GW116.out _ | refine keep_far ?_ GW120.out _) | exact HK.out)) (KeepBut.of_below hb g none) (.inl rfl)); have n5_ := Aside0.mk (below_step (by repeat (first | (with_reducible first | exact HB.out | apply below_alloc | apply pw_below_drewN | apply below_drew1 | refine below_set ?_ (IsS44.ge HI0.out) | refine below_set ?_ GE116.out | refine below_set ?_ GE120.out) | exact HB.out)) hb); clear HO_121001; clear BK116; clear BK120; clear HI0; clear HK; clear HB; have HO_121001 := n0_; have BK116 := n1_; have BK120 := n2_; have HI0 := n3_; have HK := n4_; have HB := n5_; clear n0_ n1_ n2_ n3_ n4_ n5_; (try clear hb); (try clear hb2); (try clear hk); (try clear hi)))
   have n0_ := Aside0.mk (Kd.S_drew HO_121001.out)
   have n1_ := Aside0.mk (blk_drew BK116.out)
   have n2_ := Aside0.mk (blk_drew BK120.out)
   have n3_ := Aside0.mk (IsS44.drew HI0.out)
   have n4_ := Aside0.mk (keep_drew HK.out)
   have n5_ := Aside0.mk (below_drew1 HB.out)
   clear HO_121001 BK116 BK120 HI0 HK HB
   have HO_121001 := n0_
   have BK116 := n1_
   have BK120 := n2_
   have HI0 := n3_
   have HK := n4_
   have HB := n5_
   clear n0_ n1_ n2_ n3_ n4_ n5_
   have p141 : 0 ≤ (t133 : Int) := oda
   have q141 : t133 < (x121001_2.length : Int) := oda
   obtain ⟨ad141, A141_0, c141_0, e141, hx141_0, hl141_0, hi141_0⟩ := at_L2 (Kd.S_reads' HO_121001.out).2.2 t133 p141 q141
   cases e141
   obtain ⟨ce141, hce141, hMe141, hcc141⟩ := Kd.S_get HO_121001.out [] t133 p141 (by first | exact q141 | exact oda | (have e_ := (Kd.S_reads' HO_121001.out).1; omega))
   obtain ⟨ve141_0, rfl, ge141_0⟩ := hMe141
   have hv141_0 := hcc141 0 _ rfl
   rw [Nat.add_zero, show ((Kd.slice 3 (Kd.int .i64))).sz = 1 from rfl, Nat.mul_one] at hv141_0
   replace hv141_0 := Option.some.inj (hv141_0.symm.trans hx141_0)
   rw [hv141_0] at ge141_0
   have HL141_0 := Aside0.mk (show Kd.R (Kd.int .i64) 3 _ _ _ _ (rd_L2 x121001_2 t133) from ge141_0)
   clear hv141_0 ge141_0
   have HX141_0 := Aside0.mk hx141_0
   clear hcc141 hce141
   have HR141_0 := Aside0.mk hi141_0
   have HC141_0 := Aside0.mk hl141_0
   clear hi141_0 hl141_0
   replace p141 := eq_true p141
   replace q141 := eq_true q141
   refine start_ (n := 13) (S := fun w' => w'.cell? ⟨gb120, 0, none⟩ = some (.int .i64 (wrap64 (1 + t117))) ∧ w'.cell? ⟨gb120, 1, none⟩ = some (.slice (some ad141) x121001_2.length co37) ∧ w'.cell? (ad141.add (t133).toNat) = some (.slice A141_0 (rd_L2 x121001_2 t133).length c141_0)) (ds := []) #[false, false, false, false, false, false, false, false, false, false, false, false, false] (by kernel_rfl) rfl rfl ⟨(blk_cell BK120.out 0).trans rfl, (blk_cell BK120.out 1).trans rfl, hx141_0⟩ (fun hHeld => ?_); refine with_tabW spec_l1Cur_bay.tab12 spec_l1Cur_bay.bits12 (fun HT_ HW_ => ?_)
   generalize w41.drew = w42 at HO_121001 BK116 BK120 HI0 HK HB HL141_0 HR141_0 HX141_0 hx141_0 hHeld ⊢
   refine pure_ (i := 0) (N := some 52) (v := ?_) (a' := ?_) #[true, false, false, false, false, false, false, false, false, false, false, false, false] rfl rfl (any_of HT_.out (by kernel_rfl)) (fun _ _ _ h => h) (Or.inl ⟨by rfl, ?_⟩) ?_ ?_
   rotate_left
   ·intro w'
    go_simp
    with_reducible rfl
   rotate_left
   ·simp only [putS]
    rfl
   refine pure_ (i := 1) (N := some 53) (v := ?_) (a' := ?_) #[true, true, false, false, false, false, false, false, false, false, false, false, false] rfl rfl (any_of HT_.out (by kernel_rfl)) (fun _ _ _ h => h) (Or.inl ⟨by rfl, ?_⟩) ?_ ?_
   rotate_left
   ·intro w'
    go_simp
    with_reducible rfl
   rotate_left
   ·simp only [putS]
    rfl
   refine pure_ (i := 2) (N := some 54) (v := ?_) (a' := ?_) #[true, true, true, false, false, false, false, false, false, false, false, false, false] rfl rfl (any_of HT_.out (by kernel_rfl)) (fun _ _ _ h => h) (Or.inl ⟨by rfl, ?_⟩) ?_ ?_
   rotate_left
   ·intro w'
    go_simp
    with_reducible rfl
   rotate_left
   ·simp only [putS]
    rfl
   refine pure_ (i := 3) (N := some 55) (v := ?_) (a' := ?_) #[true, true, true, true, false, false, false, false, false, false, false, false, false] rfl rfl (any_of HT_.out (by kernel_rfl)) (fun _ _ _ h => h) (Or.inl ⟨by rfl, ?_⟩) ?_ ?_
   rotate_left
   ·intro w'
    go_simp
    with_reducible rfl
   rotate_left
   ·simp only [putS]
    rfl
   refine pure_ (i := 5) (N := some 57) (v := ?_) (a' := ?_) #[true, true, true, true, false, true, false, false, false, false, false, false, false] rfl rfl (any_of HT_.out (by kernel_rfl)) (fun _ _ _ h => h) (Or.inl ⟨by rfl, ?_⟩) ?_ ?_
   rotate_left
   ·intro w'
    go_simp
    with_reducible rfl
   rotate_left
   ·simp only [putS]
    rfl
   refine pure_ (i := 9) (N := some 61) (v := ?_) (a' := ?_) #[true, true, true, true, false, true, false, false, false, true, false, false, false] rfl rfl (any_of HT_.out (by kernel_rfl)) (fun _ _ _ h => h) (Or.inl ⟨by rfl, ?_⟩) ?_ ?_
   rotate_left
   ·intro w'
    go_simp
    with_reducible rfl
   rotate_left
   ·simp only [putS]
    rfl
   refine take_ (i := 4) (N := some 56) (v := ?_) (a' := ?_) #[true, true, true, true, true, true, false, false, false, true, false, false, false] rfl rfl (take_ofW HT_.out HW_.out (by kernel_rfl)) (fun _ _ _ h => h) (Or.inl ⟨by rfl, ?_⟩) hHeld ?_ ?_
   rotate_left
   ·rintro w' ⟨s0, s1, s2⟩
    go_simp
    with_reducible rfl
   rotate_left
   ·simp only [putS]
    rfl
   refine pure_ (i := 6) (N := some 58) (v := ?_) (a' := ?_) #[true, true, true, true, true, true, true, false, false, true, false, false, false] rfl rfl (any_of HT_.out (by kernel_rfl)) (fun _ _ _ h => h) (Or.inl ⟨by rfl, ?_⟩) ?_ ?_
   rotate_left
   ·intro w'
    go_simp
    with_reducible rfl
   rotate_left
   ·simp only [putS]
    rfl
   refine take_ (i := 7) (N := some 59) (v := ?_) (a' := ?_) #[true, true, true, true, true, true, true, true, false, true, false, false, false] rfl rfl (take_ofW HT_.out HW_.out (by kernel_rfl)) (fun _ _ _ h => h) (Or.inl ⟨by rfl, ?_⟩) hHeld ?_ ?_
   rotate_left
   ·rintro w' ⟨s0, s1, s2⟩
    go_simp
    with_reducible rfl
   rotate_left
   ·simp only [putS]
    rfl
   refine pure_ (i := 8) (N := some 60) (v := ?_) (a' := ?_) #[true, true, true, true, true, true, true, true, true, true, false, false, false] rfl rfl (any_of HT_.out (by kernel_rfl)) (fun _ _ _ h => h) (Or.inl ⟨by rfl, ?_⟩) ?_ ?_
   rotate_left
   ·intro w'
    go_simp
    with_reducible rfl
   rotate_left
   ·simp only [putS]
    rfl
   refine take_ (i := 10) (N := some 62) (v := ?_) (a' := ?_) #[true, true, true, true, true, true, true, true, true, true, true, false, false] rfl rfl (take_ofW HT_.out HW_.out (by kernel_rfl)) (fun _ _ _ h => h) (Or.inl ⟨by rfl, ?_⟩) hHeld ?_ ?_
   rotate_left
   ·rintro w' ⟨s0, s1, s2⟩
    go_simp
    with_reducible rfl
   rotate_left
   ·simp only [putS]
    rfl
   refine pure_ (i := 11) (N := some 63) (v := ?_) (a' := ?_) #[true, true, true, true, true, true, true, true, true, true, true, true, false] rfl rfl (any_of HT_.out (by kernel_rfl)) (fun _ _ _ h => h) (Or.inl ⟨by rfl, ?_⟩) ?_ ?_
   rotate_left
   ·intro w'
    go_simp
    with_reducible rfl
   rotate_left
   ·simp only [putS]
    rfl
   refine pure_ (i := 12) (N := some 64) (v := ?_) (a' := ?_) #[true, true, true, true, true, true, true, true, true, true, true, true, true] rfl rfl (any_of HT_.out (by kernel_rfl)) (fun _ _ _ h => h) (Or.inl ⟨by rfl, ?_⟩) ?_ ?_
   rotate_left
   ·intro w'
    go_simp
    with_reducible rfl
   rotate_left
   ·simp only [putS]
    rfl
   refine done_ (done_of HT_.out (by kernel_rfl)) ?_
   try go_wp2
   have n0_ := Aside0.mk (Kd.S_drew HO_121001.out)
   have n1_ := Aside0.mk (Kd.R_drew HL141_0.out)
   have n2_ := Aside0.mk (blk_drew BK116.out)
   have n3_ := Aside0.mk (blk_drew BK120.out)
   have n4_ := Aside0.mk (Kd.C_drew HR141_0.out)
   have n5_ := Aside0.mk (IsS44.drew HI0.out)
   have n6_ := Aside0.mk (keep_drew HK.out)
   have n7_ := Aside0.mk (below_drew1 HB.out)
   clear HO_121001 HL141_0 BK116 BK120 HR141_0 HI0 HK HB
   have HO_121001 := n0_
   have HL141_0 := n1_
   have BK116 := n2_
   have BK120 := n3_
   have HR141_0 := n4_
   have HI0 := n5_
   have HK := n6_
   have HB := n7_
   clear n0_ n1_ n2_ n3_ n4_ n5_ n6_ n7_
   have p142 : 0 ≤ (t133 : Int) := oda
   have q142 : t133 < (x121001_2.length : Int) := oda
   obtain ⟨ad142, A142_0, c142_0, e142, hx142_0, hl142_0, hi142_0⟩ := at_L2 (Kd.S_reads' HO_121001.out).2.2 t133 p142 q142
   obtain rfl : ad141 = ad142 := (by injection e142)
   obtain ⟨ce142, hce142, hMe142, hcc142⟩ := Kd.S_get HO_121001.out [] t133 p142 (by first | exact q142 | exact oda | (have e_ := (Kd.S_reads' HO_121001.out).1; omega))
   obtain ⟨ve142_0, rfl, ge142_0⟩ := hMe142
   have hv142_0 := hcc142 0 _ rfl
   rw [Nat.add_zero, show ((Kd.slice 3 (Kd.int .i64))).sz = 1 from rfl, Nat.mul_one] at hv142_0
   replace hv142_0 := Option.some.inj (hv142_0.symm.trans hx142_0)
   rw [hv142_0] at ge142_0
   have HL142_0 := Aside0.mk (show Kd.R (Kd.int .i64) 3 _ _ _ _ (rd_L2 x121001_2 t133) from ge142_0)
   clear hv142_0 ge142_0
   have HX142_0 := Aside0.mk hx142_0
   clear hcc142 hce142
   have HR142_0 := Aside0.mk hi142_0
   have HC142_0 := Aside0.mk hl142_0
   clear hi142_0 hl142_0
   replace p142 := eq_true p142
   replace q142 := eq_true q142
   obtain ⟨go44, co44, eo44, gb44, gl44, cl44, HG44⟩ := Kd.S_form HO_121001.out (by have h_ : (t133 : Int) < ((x121001_2.length : Int) : Int) := oda; have h2_ : 0 ≤ (t133 : Int) := (oda); omega)
   (first | cases eo44 | (injection eo44 with ea_ en_ ec_; (first | subst ea_ | (injection ea_ with ea_; subst ea_)); subst ec_; clear en_))
   have GB44 := Aside0.mk gb44
   have GG44 := Aside0.mk HG44
   clear gb44 gl44 HG44
   (first | simp only [add_plain] at hx141_0 | skip)
   (first | simp only [add_plain] at hx142_0 | skip)
   obtain ⟨oki44, ce44, hcl44, hM44, hcc44, _, _, hH44⟩ := Kd.S_elem HO_121001.out [] (t133 : Int) (oda) (by have h_ : (t133 : Int) < ((x121001_2.length : Int) : Int) := oda; first | exact h_ | (have e_ := (Kd.S_reads' HO_121001.out).1; omega) | simpa using h_)
   obtain ⟨ve44_0, rfl, ge44_0⟩ := hM44
   have hv44 := hcc44 0 _ rfl
   have hX44 := HX142_0.out
   (try simp only [add_plain] at hX44)
   (try simp only [Nat.add_zero] at hv44)
   (try rw [show ((Kd.slice 3 (Kd.int .i64))).sz = 1 from rfl, Nat.mul_one] at hv44)
   replace hv44 := Option.some.inj (hv44.symm.trans hX44)
   subst hv44
   clear hX44 hcc44 hcl44
   have UU44 := Aside0.mk (show Kd.R (Kd.int .i64) 3 _ w.heap.size oki44 (.slice A142_0 (rd_L2 x121001_2 t133).length c142_0) (rd_L2 x121001_2 t133) from ge44_0)
   have HH44 := Aside0.mk hH44
   have HN44 := Aside0.mk (Kd.S_reads' HO_121001.out).1
   clear hH44 ge44_0
   refine start_ (n := 13) (S := fun w' => w'.cell? ⟨gb120, 0, none⟩ = some (.int .i64 (wrap64 (1 + t117))) ∧ w'.cell? ⟨gb120, 1, none⟩ = some (.slice (some ⟨go44, 0, none⟩) x121001_2.length co37) ∧ w'.cell? ⟨go44, (t133).toNat, none⟩ = some (.slice A142_0 (rd_L2 x121001_2 t133).length c142_0)) (ds := [12]) #[false, false, false, false, false, false, false, false, false, false, false, false, false] (by kernel_rfl) rfl rfl ⟨(blk_cell BK120.out 0).trans rfl, (blk_cell BK120.out 1).trans rfl, hx142_0⟩ (fun hHeld => ?_); refine with_tabW spec_l1Cur_bay.tab13 spec_l1Cur_bay.bits13 (fun HT_ HW_ => ?_)
   generalize w42.drew = w43 at HO_121001 HL141_0 BK116 BK120 HR141_0 HI0 HK HB GG44 HH44 HL142_0 HR142_0 HX142_0 UU44 hx141_0 hx142_0 hHeld ⊢
   refine pure_ (i := 0) (N := some 65) (v := ?_) (a' := ?_) #[true, false, false, false, false, false, false, false, false, false, false, false, false] rfl rfl (any_of HT_.out (by kernel_rfl)) (fun _ _ _ h => h) (Or.inl ⟨by rfl, ?_⟩) ?_ ?_
   rotate_left
   ·intro w'
    go_simp
    with_reducible rfl
   rotate_left
   ·simp only [putS]
    rfl
   refine pure_ (i := 2) (N := some 67) (v := ?_) (a' := ?_) #[true, false, true, false, false, false, false, false, false, false, false, false, false] rfl rfl (any_of HT_.out (by kernel_rfl)) (fun _ _ _ h => h) (Or.inl ⟨by rfl, ?_⟩) ?_ ?_
   rotate_left
   ·intro w'
    go_simp
    with_reducible rfl
   rotate_left
   ·simp only [putS]
    rfl
   refine pure_ (i := 3) (N := some 68) (v := ?_) (a' := ?_) #[true, false, true, true, false, false, false, false, false, false, false, false, false] rfl rfl (any_of HT_.out (by kernel_rfl)) (fun _ _ _ h => h) (Or.inl ⟨by rfl, ?_⟩) ?_ ?_
   rotate_left
   ·intro w'
    go_simp
    with_reducible rfl
   rotate_left
   ·simp only [putS]
    rfl
   refine pure_ (i := 5) (N := some 70) (v := ?_) (a' := ?_) #[true, false, true, true, false, true, false, false, false, false, false, false, false] rfl rfl (any_of HT_.out (by kernel_rfl)) (fun _ _ _ h => h) (Or.inl ⟨by rfl, ?_⟩) ?_ ?_
   rotate_left
   ·intro w'
    go_simp
    with_reducible rfl
   rotate_left
   ·simp only [putS]
    rfl
   refine pure_ (i := 8) (N := some 73) (v := ?_) (a' := ?_) #[true, false, true, true, false, true, false, false, true, false, false, false, false] rfl rfl (any_of HT_.out (by kernel_rfl)) (fun _ _ _ h => h) (Or.inl ⟨by rfl, ?_⟩) ?_ ?_
   rotate_left
   ·intro w'
    go_simp
    with_reducible rfl
   rotate_left
   ·simp only [putS]
    rfl
   refine take_ (i := 1) (N := some 66) (v := ?_) (a' := ?_) #[true, true, true, true, false, true, false, false, true, false, false, false, false] rfl rfl (take_ofW HT_.out HW_.out (by kernel_rfl)) (fun _ _ _ h => h) (Or.inl ⟨by rfl, ?_⟩) hHeld ?_ ?_
   rotate_left
   ·rintro w' ⟨s0, s1, s2⟩
    go_simp
    with_reducible rfl
   rotate_left
   ·simp only [putS]
    rfl
   refine take_ (i := 4) (N := some 69) (v := ?_) (a' := ?_) #[true, true, true, true, true, true, false, false, true, false, false, false, false] rfl rfl (take_ofW HT_.out HW_.out (by kernel_rfl)) (fun _ _ _ h => h) (Or.inl ⟨by rfl, ?_⟩) hHeld ?_ ?_
   rotate_left
   ·rintro w' ⟨s0, s1, s2⟩
    go_simp
    with_reducible rfl
   rotate_left
   ·simp only [putS]
    rfl
   refine pure_ (i := 6) (N := some 71) (v := ?_) (a' := ?_) #[true, true, true, true, true, true, true, false, true, false, false, false, false] rfl rfl (any_of HT_.out (by kernel_rfl)) (fun _ _ _ h => h) (Or.inl ⟨by rfl, ?_⟩) ?_ ?_
   rotate_left
   ·intro w'
    go_simp
    with_reducible rfl
   rotate_left
   ·simp only [putS]
    rfl
   refine take_ (i := 7) (N := some 72) (v := ?_) (a' := ?_) #[true, true, true, true, true, true, true, true, true, false, false, false, false] rfl rfl (take_ofW HT_.out HW_.out (by kernel_rfl)) (fun _ _ _ h => h) (Or.inl ⟨by rfl, ?_⟩) hHeld ?_ ?_
   rotate_left
   ·rintro w' ⟨s0, s1, s2⟩
    go_simp
    with_reducible rfl
   rotate_left
   ·simp only [putS]
    rfl
   refine one_ (i := 9) (N := some 74) #[true, true, true, true, true, true, true, true, true, true, false, false, false] rfl rfl (one_of HT_.out (by kernel_rfl)) (by decide) (fun K hK => ?_)
   refine value_ (w1 := ?_) (v := ?_) (by rfl) rfl ?_ ?_
   rotate_left 2
   ·go_simp
    constructor
    ·rfl
    rfl
   refine hK.out _ _ ⟨(blk_cell (blk_alloc BK120.out _) 0).trans rfl, (blk_cell (blk_alloc BK120.out _) 1).trans rfl, (World.cell?_alloc_lt _ _ _ (World.block_lt_of_cell? _ _ (hHeld.2.2))).trans (hHeld.2.2)⟩ (fun hHeld => ?_)
   clear hK K
   refine norm_ (a' := ?_) ?_ ?_
   rotate_left
   ·show Act.put _ (some 74) _ = _
    simp only [putS]
    rfl
   refine one_ (i := 10) (N := some 75) #[true, true, true, true, true, true, true, true, true, true, true, false, false] rfl rfl (one_of HT_.out (by kernel_rfl)) (by decide) (fun K hK => ?_)
   refine Kd.R_append_step (Kd.int .i64) w.heap.size (by rfl) (.tmp 72) (.tmp 74) 48 3 (.int .i64 0) 8 rfl Tryz.underlying48 info3 rfl (by decide) (by omega) (.slice A142_0 (rd_L2 x121001_2 t133).length c142_0) (rd_L2 x121001_2 t133) (wrap64 (1 + (Int.tmod (wrap64 ((wrap64 (7 * x5_2)) + (wrap64 (t136 * 31)))) 99))) [.int .i64 (wrap64 (1 + (Int.tmod (wrap64 ((wrap64 (7 * x5_2)) + (wrap64 (t136 * 31)))) 99)))] (fun k_ => oki44 k_ ∨ ((fun _ => True)) k_ ∧ w43.heap.size ≤ k_) (fun _ => False) rfl rfl ?aP (fun _ hk => hk.elim) ?aF ?aO (Below.refl _ _) ?aS ?aL ?_
   (case aP => exact rfl)
   (case aF => exact (fun k_ hk => .inr ⟨trivial, hk⟩))
   (case aO => exact (by (with_reducible repeat (first | apply Kd.R_alloc | apply Kd.R_drewN | apply Kd.R_drew)); exact Kd.R_mono UU44.out (fun _ hk => .inl hk)))
   (case aS => exact (keep_size (w := w) (g := g) (row := none) (by repeat (first | (with_reducible first | exact HK.out | apply KeepBut.set_ | apply keep_drewN | apply keep_drew | apply keep_alloc | refine keep_far ?_ GW116.out _ | refine keep_far ?_ GW120.out _) | exact HK.out))))
   (case aL => have := LMc32.out; omega)
   intro v144 w45 ho hb hg hat
   (first | have HS2_ := cell_grown hg (hHeld.2.2) (by first | (rw [add_block]; exact (fun e_ => ((HL142_0.out.1 _ e_.symm).2) rfl)) | (show some (Addr.add _ _).block ≠ _; rw [add_block]; exact (fun e_ => ((HL142_0.out.1 _ e_.symm).2) rfl)) | exact (fun e_ => ((HL142_0.out.1 _ e_.symm).2) rfl)) | have HS2_ := cell_grown hg (cell_unalloc (hHeld.2.2) (by first | (rw [add_block]; exact Kd.S_lt HO_121001.out _ rfl) | (show (Addr.add _ _).block < _; rw [add_block]; exact Kd.S_lt HO_121001.out _ rfl) | exact Kd.S_lt HO_121001.out _ rfl)) (by first | (rw [add_block]; exact (fun e_ => ((HL142_0.out.1 _ e_.symm).2) rfl)) | (show some (Addr.add _ _).block ≠ _; rw [add_block]; exact (fun e_ => ((HL142_0.out.1 _ e_.symm).2) rfl)) | exact (fun e_ => ((HL142_0.out.1 _ e_.symm).2) rfl)))
   rw [← Ny143.out] at ho
   have n0_ := Aside0.mk (blk_grown (g := gb116) (o := .cells #[.int .i64 0, .slice none 0 0] 26 (0, 0)) (bkl BK116) hg (Kd.R_ne HL142_0.out BK116.out (by decide)))
   have n1_ := Aside0.mk (blk_grown (g := gb120) (o := .cells #[.int .i64 (wrap64 (1 + t117)), .slice (some ⟨go44, 0, none⟩) x121001_2.length co37] 26 (0, 0)) (bkl BK120) hg (Kd.R_ne HL142_0.out BK120.out (by decide)))
   have n2_ := Aside0.mk (IsS44.grown (by repeat (first | (with_reducible first | exact HI0.out | apply IsS44.alloc | apply IsS44.drewN | apply IsS44.drew | apply IsS44.set_1 | apply IsS44.set_2 | refine IsS44.far ?_ NB0_116.out _ | refine IsS44.far ?_ NB0_120.out _) | exact HI0.out)) hg (IsS44.own_ne HI0.out HL142_0.out (by decide)))
   have n3_ := Aside0.mk (below_weaken (by repeat (first | (with_reducible first | exact HB.out | apply below_alloc | apply pw_below_drewN | apply below_drew1 | refine below_set ?_ (IsS44.ge HI0.out) | refine below_set ?_ GE116.out | refine below_set ?_ GE120.out) | exact HB.out)) HL.out hb)
   have n4_ := Aside0.mk (KeepBut.trans (by repeat (first | (with_reducible first | exact HK.out | apply KeepBut.set_ | apply keep_drewN | apply keep_drew | apply keep_alloc | refine keep_far ?_ GW116.out _ | refine keep_far ?_ GW120.out _) | exact HK.out)) (KeepBut.of_grown hg g) (Kd.R_base2 HL142_0.out))
   have n5_ := Aside0.mk (Kd.H_grown (Kd.H_widen (by repeat (first | exact HH44.out | refine Kd.H_alloc ?_ _ | refine Kd.H_drewN ?_ _ | refine Kd.H_drew ?_))) hg (fun k_ e_ => .inl (UU44.out.1 k_ e_)))
   have n6_ := Aside0.mk (ho)
   clear BK116 BK120 HI0 HB HK HH44 HO_121001 UU44 HL141_0 HL142_0
   have BK116 := n0_
   have BK120 := n1_
   have HI0 := n2_
   have HB := n3_
   have HK := n4_
   have HH44 := n5_
   have HO145 := n6_
   clear n0_ n1_ n2_ n3_ n4_ n5_ n6_ ho hb hg hat
   have p33 : 0 ≤ (t133 : Int) := oda
   have q33 : (t133 : Int) < ((x121001_2.length : Int) : Int) := oda
   replace p33 := eq_true p33
   replace q33 := eq_true q33
   obtain ⟨Ao48, co48, eo48⟩ := Kd.R_slice HO145.out
   (first | subst eo48 | (injection eo48 with f1_ f2_ f3_; have f4_ := f1_.symm; have f5_ := f3_.symm; clear f1_ f2_ f3_; subst f4_; subst f5_))
   obtain ⟨_, _, hraw46, _, _, hcc46, _⟩ := Kd.H_raw HH44.out (oda) (by have h_ : (t133 : Int) < ((x121001_2.length : Int) : Int) := oda; first | exact h_ | (have e_ := (HN44.out); omega) | simpa using h_)
   obtain ⟨_, hfr46⟩ := Kd.H_at HH44.out (oda) (by have h_ : (t133 : Int) < ((x121001_2.length : Int) : Int) := oda; first | exact h_ | (have e_ := (HN44.out); omega) | simpa using h_)
   have hx46_0 := hcc46 0 _ rfl
   have hf46_0 := hfr46 0
   (try simp only [Nat.add_zero] at hx46_0 hf46_0)
   (try rw [show ((Kd.slice 3 (Kd.int .i64))).sz = 1 from rfl, Nat.mul_one] at hx46_0)
   (try rw [show ((Kd.slice 3 (Kd.int .i64))).sz = 1 from rfl, Nat.mul_one] at hf46_0)
   have HP46 := Kd.S_seg0 HH44.out (oda) (by have h_ : (t133 : Int) < ((x121001_2.length : Int) : Int) := oda; first | exact h_ | (have e_ := (HN44.out); omega) | simpa using h_) (seg := [.slice Ao48 y143.length co48]) (j := 0) (show 1 ≤ 1 from by decide) (x' := y143) (Kd.M_row HO145.out) (fun _ hk => hk)
   (try simp only [show ((Kd.slice 3 (Kd.int .i64))).sz = 1 from rfl, Nat.mul_one, Nat.add_zero] at HP46)
   clear hcc46 hfr46
   have HN0_go44 := Aside0.mk (show g ≠ go44 from by have h_ := IsS44.own_ne HI0.out hraw46 (by decide); intro e_; exact h_ (by rw [e_]; rfl))
   have HNB116_go44 := Aside0.mk (show gb116 ≠ go44 from by have h_ := Kd.R_ne hraw46 BK116.out (by decide); intro e_; exact h_ (by rw [e_]; rfl))
   have HNB120_go44 := Aside0.mk (show gb120 ≠ go44 from by have h_ := Kd.R_ne hraw46 BK120.out (by decide); intro e_; exact h_ (by rw [e_]; rfl))
   have HS46 := HP46.1
   rw [← Ny146.out] at HS46
   have HQ46 := Aside0.mk HS46
   obtain ⟨_, hgg46⟩ := Kd.R_typed hraw46 go44 rfl
   have GG46_ := Aside0.mk hgg46
   clear HP46 HS46 hgg46
   refine hK.out _ _ ⟨(blk_cell BK120.out 0).trans rfl, (blk_cell BK120.out 1).trans rfl, HS2_⟩ (fun hHeld => ?_)
   clear hK K
   refine norm_ (a' := ?_) ?_ ?_
   rotate_left
   ·show Act.put _ (some 75) _ = _
    simp only [putS]
    rfl
   refine pure_ (i := 11) (N := some 76) (v := ?_) (a' := ?_) #[true, true, true, true, true, true, true, true, true, true, true, true, false] rfl rfl (any_of HT_.out (by kernel_rfl)) (fun _ _ _ h => h) (Or.inl ⟨by rfl, ?_⟩) ?_ ?_
   rotate_left
   ·intro w'
    go_simp
    with_reducible rfl
   rotate_left
   ·simp only [putS]
    rfl
   refine last_ (i := 12) (N := none) #[true, true, true, true, true, true, true, true, true, true, true, true, true] rfl rfl (one_of HT_.out (by kernel_rfl)) (by decide) (fun K hK => ?_)
   refine skip_ (w1 := ?_) (by rfl) rfl ?_ ?_
   rotate_left
   ·go_simp
    rfl
   refine hK.out _ _ ?_
   clear hK K
   refine done_ (done_of HT_.out (by kernel_rfl)) ?_
   try go_wp2
   go_roundg k2
   case measure => have := HK1.out; have := HK2.out; omega
   case rel => exact ⟨(wrap64 (x5_2 - 1)), (t137), (t138), (y146), (.slice (some ⟨go44, 0, none⟩) x121001_2.length co37), (by first | rfl | (simp; done) | (simp [*]; done)), H', ⟨by have := HK1.out; have := HK2.out; omega⟩, ⟨sdl HQ46⟩, ⟨by (with_reducible repeat (first | refine blk_drewN ?_ _ | refine blk_drew ?_ | refine blk_alloc ?_ _)); refine blk_far ?_ HNB116_go44.out _; (with_reducible repeat (first | refine blk_drewN ?_ _ | refine blk_drew ?_ | refine blk_alloc ?_ _)); exact BK116.out⟩, ⟨by (with_reducible repeat (first | refine blk_drewN ?_ _ | refine blk_drew ?_ | refine blk_alloc ?_ _)); refine blk_far ?_ HNB120_go44.out _; (with_reducible repeat (first | refine blk_drewN ?_ _ | refine blk_drew ?_ | refine blk_alloc ?_ _)); exact BK120.out⟩, ⟨by repeat (first | (with_reducible first | exact HI0.out | apply IsS44.alloc | apply IsS44.drewN | apply IsS44.drew | apply IsS44.set_1 | apply IsS44.set_2 | refine IsS44.far ?_ HN0_go44.out _ | refine IsS44.far ?_ NB0_116.out _ | refine IsS44.far ?_ NB0_120.out _) | exact HI0.out)⟩, ⟨by repeat (first | (with_reducible first | exact HK.out | apply KeepBut.set_ | apply keep_drewN | apply keep_drew | apply keep_alloc | refine keep_far ?_ GB44.out _ | refine keep_far ?_ GW116.out _ | refine keep_far ?_ GW120.out _) | exact HK.out)⟩, ⟨by repeat (first | (with_reducible first | exact HB.out | apply below_alloc | apply pw_below_drewN | apply below_drew1 | refine below_set ?_ (Nat.le_trans HL.out GB44.out) | refine below_set ?_ (IsS44.ge HI0.out) | refine below_set ?_ GE116.out | refine below_set ?_ GE120.out) | exact HB.out)⟩⟩
end Go.Proofs.YtnknojpijmfefaaGreatDoor.P
