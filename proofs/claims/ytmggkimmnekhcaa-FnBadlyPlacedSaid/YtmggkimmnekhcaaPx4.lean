-- Written by a program of this session over the translation (a variant of the printer, see wip/gen); Lean checks it.
import Derived.Test.YtmggkimmnekhcaaPx0
import Derived.Test.YtmggkimmnekhcaaPx1
import Derived.Test.YtmggkimmnekhcaaPx3
namespace Go.Proofs.Ytmggkimmnekhcaa.P
open Go.RowKit Go.Proofs.YtmggkimmnekhcaaW.PrintWords Go.Proofs.YtmggkimmnekhcaaW.PrintLast Go.Proofs.YtmggkimmnekhcaaW.PrintMore
attribute [local go_sem] Go.Proofs.Ytmggkimmnekhcaa.V.isSome_setCell max2_int min2_int max_two min_two max_three min_three max_four min_four
set_option linter.unusedVariables false
set_option linter.unusedSimpArgs false
/-! ### spec_l1Cur_anyYard: function 35 -/
def spec_l1Cur_anyYard.l0 : Nat → Int → List Int → Int → Int → List (List Int) → Option ((List (List Int)) × Int × Int)
 | 0, _, _, _, _, _ => none
 | k + 1, x5, x1000, x1001, x1002, x175000 => (spec_l1Cur_pick.f x1000 x1001 x1002 2).bind fun bt199 => (if (x175000.length : Int) < (wrap64 (6 + bt199.1)) then (if x5 < 8 then (if x175000.length < 5864062014805 then (spec_l1Cur_anyYard.l0 k (wrap64 (x5 + 1)) x1000 bt199.2.1 bt199.2.2 (x175000 ++ [(([wrap64 (40 + x5)] : List Int))])) else (none)) else (some (x175000, bt199.2.1, bt199.2.2))) else (some (x175000, bt199.2.1, bt199.2.2)))
def spec_l1Cur_anyYard.f (k : Nat) (s0_0 : List Int) (s0_1 : Int) (s0_2 : Int) : Option ((List (List Int)) × Int × Int) := (spec_l1Cur_yard.f k s0_0 s0_1 s0_2).bind fun bt169 => ((spec_l1Cur_pick.f s0_0 bt169.2.1 bt169.2.2 (bt169.1.length : Int)).bind fun bt175 => ((spec_l1Cur_pick.f s0_0 bt175.2.1 bt175.2.2 24).bind fun bt178 => (if bt178.1 = 0 then (if 0 ≤ bt175.1 then (if bt175.1 < (bt169.1.length : Int) then ((spec_l1Cur_among.f s0_0 bt178.2.1 bt178.2.2 (([0, 100, 99, 1] : List Int))).bind fun bt185 => (if (rd_L2 bt169.1 bt175.1).length < 17592186044416 then (some ((bt169.1.set (bt175.1 : Int).toNat ((rd_L2 bt169.1 bt175.1) ++ [bt185.1])), bt185.2.1, bt185.2.2)) else (none))) else (none)) else (none)) else (if bt178.1 = 1 then (if 0 ≤ bt175.1 then (if bt175.1 < (bt169.1.length : Int) then (some ((bt169.1.set (bt175.1 : Int).toNat (([21, 22, 23, 24, 25] : List Int))), bt178.2.1, bt178.2.2)) else (none)) else (none)) else (if bt178.1 = 2 then (some ((([] : List (List Int))), bt178.2.1, bt178.2.2)) else (if bt178.1 = 3 then (spec_l1Cur_anyYard.l0 k 0 s0_0 bt178.2.1 bt178.2.2 bt169.1) else (some (bt169.1, bt178.2.1, bt178.2.2))))))))
theorem spec_l1Cur_anyYard.mono_l : ∀ k, (∀ y0 y1 y2 y3 y4, LeO (spec_l1Cur_anyYard.l0 k y0 y1 y2 y3 y4) (spec_l1Cur_anyYard.l0 (k + 1) y0 y1 y2 y3 y4))
 | 0 => fun _ _ _ _ _ r h => by simp [spec_l1Cur_anyYard.l0] at h
 | k + 1 => by
  have ih0 := spec_l1Cur_anyYard.mono_l k
  ·intro y0 y1 y2 y3 y4
   unfold spec_l1Cur_anyYard.l0
   repeat' first
   | (with_reducible exact ih0 _ _ _ _ _)
   | (with_reducible exact spec_l1Cur_yard.mono _ _ _ _)
   | (with_reducible exact LeO.refl _)
   | (with_reducible exact LeO.none _)
   | (with_reducible refine LeO.ite ?_ ?_)
   | (with_reducible refine LeO.bind ?_ (fun _ => ?_))
   | exact ih0 _ _ _ _ _
   | exact spec_l1Cur_yard.mono _ _ _ _
   | exact LeO.none _
   | refine LeO.ite ?_ ?_
   | refine LeO.bind ?_ (fun _ => ?_)
theorem spec_l1Cur_anyYard.mono : ∀ a0 a1 a2 k, LeO (spec_l1Cur_anyYard.f k a0 a1 a2) (spec_l1Cur_anyYard.f (k + 1) a0 a1 a2) := by
 intro a0 a1 a2 k
 have ih0 := spec_l1Cur_anyYard.mono_l k
 unfold spec_l1Cur_anyYard.f
 repeat' first
   | (with_reducible exact ih0 _ _ _ _ _)
   | (with_reducible exact spec_l1Cur_yard.mono _ _ _ _)
   | (with_reducible exact LeO.refl _)
   | (with_reducible exact LeO.none _)
   | (with_reducible refine LeO.ite ?_ ?_)
   | (with_reducible refine LeO.bind ?_ (fun _ => ?_))
   | exact ih0 _ _ _ _ _
   | exact spec_l1Cur_yard.mono _ _ _ _
   | exact LeO.none _
   | refine LeO.ite ?_ ?_
   | refine LeO.bind ?_ (fun _ => ?_)
def spec_l1Cur_anyYard.T5 : Bool × List (List Nat × List Nat) := (true, [([], []), ([0], [0]), ([], []), ([], []), ([3], [3]), ([], []), ([4, 5], [4, 5]), ([6], [6]), ([], []), ([], []), ([8, 9], [8, 9]), ([10], [10]), ([7, 11, 10], [7, 11]), ([1, 2, 0, 1, 2, 3, 4, 5, 6, 7, 8, 9, 10, 11, 12], [1, 2]), ([13, 12, 12, 0, 1, 2, 3, 4, 5, 6, 7, 8, 9, 10, 11, 12], [12, 13])])
def spec_l1Cur_anyYard.B5 : List Nat := [0, 1, 0, 0, 8, 0, 56, 120, 0, 0, 768, 1792, 4088, 8191, 16383]
theorem spec_l1Cur_anyYard.tab5 : rtab .any (opsOf Try.f35 5) = spec_l1Cur_anyYard.T5 := by kernel_rfl
theorem spec_l1Cur_anyYard.bits5 : waitsOk spec_l1Cur_anyYard.T5.2 spec_l1Cur_anyYard.B5 = true := by kernel_rfl
def spec_l1Cur_anyYard.T12 : Bool × List (List Nat × List Nat) := (true, [([], []), ([0], [0]), ([1], [1]), ([], []), ([3], [3]), ([4], [4]), ([2, 5], [2, 5]), ([6, 4], [6]), ([7], [7]), ([8, 7], [7, 8]), ([7, 9], [7, 9])])
def spec_l1Cur_anyYard.B12 : List Nat := [0, 1, 3, 0, 8, 24, 63, 127, 255, 511, 1023]
theorem spec_l1Cur_anyYard.tab12 : rtab .any (opsOf Try.f35 12) = spec_l1Cur_anyYard.T12 := by kernel_rfl
theorem spec_l1Cur_anyYard.bits12 : waitsOk spec_l1Cur_anyYard.T12.2 spec_l1Cur_anyYard.B12 = true := by kernel_rfl
set_option maxHeartbeats 8000000 in
set_option maxRecDepth 100000 in
theorem spec_l1Cur_anyYard.calls (k : Nat) (g : Nat) (s0_0 : List Int) (s0_1 : Int) (s0_2 : Int) (r1 : List (List Int)) (r2 : Int) (r3 : Int) (w0 w : World) (hI : IsS58 w0 w g s0_0 s0_1 s0_2) (hB : Below w0.heap.size w0 w) (h : spec_l1Cur_anyYard.f k s0_0 s0_1 s0_2 = some (r1, r2, r3)) :
  Calls Try.prog 35 #[.pointer (some ⟨g, 0, none⟩)] w fun e w' => ∃ v0_ : Value, e = .returned (.agg #[v0_]) ∧ Kd.S (Kd.slice 3 (Kd.int .i64)) 28 w' w.heap.size (fun _ => True) v0_ r1 ∧ IsS58 w0 w' g s0_0 r2 r3 ∧ Below w0.heap.size w0 w' ∧ KeepBut w w' g none := by
 have hu26 := Try.underlying26
 have HI0 := Aside0.mk hI
 have HK := Aside0.mk (KeepBut.refl w g none)
 have HL := Aside0.mk hB.size
 clear hI
 have HW0 := Aside0.mk hB.size
 have HB := Aside0.mk hB
 clear hB
 have H : ((spec_l1Cur_yard.f k s0_0 s0_1 s0_2).bind fun bt169 => ((spec_l1Cur_pick.f s0_0 bt169.2.1 bt169.2.2 (bt169.1.length : Int)).bind fun bt175 => ((spec_l1Cur_pick.f s0_0 bt175.2.1 bt175.2.2 24).bind fun bt178 => (if bt178.1 = 0 then (if 0 ≤ bt175.1 then (if bt175.1 < (bt169.1.length : Int) then ((spec_l1Cur_among.f s0_0 bt178.2.1 bt178.2.2 (([0, 100, 99, 1] : List Int))).bind fun bt185 => (if (rd_L2 bt169.1 bt175.1).length < 17592186044416 then (some ((bt169.1.set (bt175.1 : Int).toNat ((rd_L2 bt169.1 bt175.1) ++ [bt185.1])), bt185.2.1, bt185.2.2)) else (none))) else (none)) else (none)) else (if bt178.1 = 1 then (if 0 ≤ bt175.1 then (if bt175.1 < (bt169.1.length : Int) then (some ((bt169.1.set (bt175.1 : Int).toNat (([21, 22, 23, 24, 25] : List Int))), bt178.2.1, bt178.2.2)) else (none)) else (none)) else (if bt178.1 = 2 then (some ((([] : List (List Int))), bt178.2.1, bt178.2.2)) else (if bt178.1 = 3 then (spec_l1Cur_anyYard.l0 k 0 s0_0 bt178.2.1 bt178.2.2 bt169.1) else (some (bt169.1, bt178.2.1, bt178.2.2))))))))) = some (r1, r2, r3) := h
 clear h
 replace H := Option.bind_eq_some_iff.mp H
 obtain ⟨⟨t169, t172, t173⟩, A20, H⟩ := H
 replace H : ((spec_l1Cur_pick.f s0_0 t172 t173 (t169.length : Int)).bind fun bt175 => ((spec_l1Cur_pick.f s0_0 bt175.2.1 bt175.2.2 24).bind fun bt178 => (if bt178.1 = 0 then (if 0 ≤ bt175.1 then (if bt175.1 < (t169.length : Int) then ((spec_l1Cur_among.f s0_0 bt178.2.1 bt178.2.2 (([0, 100, 99, 1] : List Int))).bind fun bt185 => (if (rd_L2 t169 bt175.1).length < 17592186044416 then (some ((t169.set (bt175.1 : Int).toNat ((rd_L2 t169 bt175.1) ++ [bt185.1])), bt185.2.1, bt185.2.2)) else (none))) else (none)) else (none)) else (if bt178.1 = 1 then (if 0 ≤ bt175.1 then (if bt175.1 < (t169.length : Int) then (some ((t169.set (bt175.1 : Int).toNat (([21, 22, 23, 24, 25] : List Int))), bt178.2.1, bt178.2.2)) else (none)) else (none)) else (if bt178.1 = 2 then (some ((([] : List (List Int))), bt178.2.1, bt178.2.2)) else (if bt178.1 = 3 then (spec_l1Cur_anyYard.l0 k 0 s0_0 bt178.2.1 bt178.2.2 t169) else (some (t169, bt178.2.1, bt178.2.2)))))))) = some (r1, r2, r3) := H
 have A2 := Aside0.mk A20
 clear A20
 replace H := Option.bind_eq_some_iff.mp H
 obtain ⟨⟨t175, t176, t177⟩, A30, H⟩ := H
 replace H : ((spec_l1Cur_pick.f s0_0 t176 t177 24).bind fun bt178 => (if bt178.1 = 0 then (if 0 ≤ t175 then (if t175 < (t169.length : Int) then ((spec_l1Cur_among.f s0_0 bt178.2.1 bt178.2.2 (([0, 100, 99, 1] : List Int))).bind fun bt185 => (if (rd_L2 t169 t175).length < 17592186044416 then (some ((t169.set (t175 : Int).toNat ((rd_L2 t169 t175) ++ [bt185.1])), bt185.2.1, bt185.2.2)) else (none))) else (none)) else (none)) else (if bt178.1 = 1 then (if 0 ≤ t175 then (if t175 < (t169.length : Int) then (some ((t169.set (t175 : Int).toNat (([21, 22, 23, 24, 25] : List Int))), bt178.2.1, bt178.2.2)) else (none)) else (none)) else (if bt178.1 = 2 then (some ((([] : List (List Int))), bt178.2.1, bt178.2.2)) else (if bt178.1 = 3 then (spec_l1Cur_anyYard.l0 k 0 s0_0 bt178.2.1 bt178.2.2 t169) else (some (t169, bt178.2.1, bt178.2.2))))))) = some (r1, r2, r3) := H
 have A3 := Aside0.mk A30
 clear A30
 replace H := Option.bind_eq_some_iff.mp H
 obtain ⟨⟨t178, t179, t180⟩, A40, H⟩ := H
 replace H : (if t178 = 0 then (if 0 ≤ t175 then (if t175 < (t169.length : Int) then ((spec_l1Cur_among.f s0_0 t179 t180 (([0, 100, 99, 1] : List Int))).bind fun bt185 => (if (rd_L2 t169 t175).length < 17592186044416 then (some ((t169.set (t175 : Int).toNat ((rd_L2 t169 t175) ++ [bt185.1])), bt185.2.1, bt185.2.2)) else (none))) else (none)) else (none)) else (if t178 = 1 then (if 0 ≤ t175 then (if t175 < (t169.length : Int) then (some ((t169.set (t175 : Int).toNat (([21, 22, 23, 24, 25] : List Int))), t179, t180)) else (none)) else (none)) else (if t178 = 2 then (some ((([] : List (List Int))), t179, t180)) else (if t178 = 3 then (spec_l1Cur_anyYard.l0 k 0 s0_0 t179 t180 t169) else (some (t169, t179, t180)))))) = some (r1, r2, r3) := H
 have A4 := Aside0.mk A40
 clear A40
 by_cases c5 : t178 = 0
 ·rw [if_pos c5] at H
  have c5b0 : (t178 == 0) = true := beq_iff_eq.mpr c5
  have c5b1 : (t178 != 0) = false := bne_eq_false_iff_eq.mpr c5
  clear c5
  by_cases c6 : 0 ≤ t175
  rotate_left
  ·rw [if_neg c6] at H
   exact absurd H (by simp)
  rw [if_pos c6] at H
  have c6b0 : decide (0 ≤ t175) = true := decide_eq_true c6
  clear c6
  by_cases c7 : t175 < (t169.length : Int)
  rotate_left
  ·rw [if_neg c7] at H
   exact absurd H (by simp)
  rw [if_pos c7] at H
  have c7b0 : decide (t175 < (t169.length : Int)) = true := decide_eq_true c7
  clear c7
  obtain ⟨y182, hy182⟩ : ∃ y_ : List Int, y_ = (([0, 100, 99, 1] : List Int)) := ⟨_, rfl⟩
  replace H : ((spec_l1Cur_among.f s0_0 t179 t180 y182).bind fun bt185 => (if (rd_L2 t169 t175).length < 17592186044416 then (some ((t169.set (t175 : Int).toNat ((rd_L2 t169 t175) ++ [bt185.1])), bt185.2.1, bt185.2.2)) else (none))) = some (r1, r2, r3) := by first | (rw [hy182]; with_reducible exact H) | (have H2_ := (Option.bind_some _ _).symm.trans H; rw [hy182]; with_reducible exact H2_) | (have H2_ := (Option.bind_some _ _).symm.trans H; with_reducible exact H2_) | with_reducible exact H | (rw [hy182]; exact H) | exact H
  have Ny182 := Aside0.mk hy182
  clear hy182
  replace H := Option.bind_eq_some_iff.mp H
  obtain ⟨⟨t185, t186, t187⟩, A80, H⟩ := H
  replace H : (if (rd_L2 t169 t175).length < 17592186044416 then (some ((t169.set (t175 : Int).toNat ((rd_L2 t169 t175) ++ [t185])), t186, t187)) else (none)) = some (r1, r2, r3) := H
  have A8 := Aside0.mk A80
  clear A80
  by_cases c9 : (rd_L2 t169 t175).length < 17592186044416
  rotate_left
  ·rw [if_neg c9] at H
   exact absurd H (by simp)
  rw [if_pos c9] at H
  have LMc9 := Aside0.mk c9
  clear c9
  obtain ⟨y188, hy188⟩ : ∃ y_ : List Int, y_ = ((rd_L2 t169 t175) ++ [t185]) := ⟨_, rfl⟩
  replace H : (some ((t169.set (t175 : Int).toNat y188), t186, t187)) = some (r1, r2, r3) := by first | (rw [hy188]; with_reducible exact H) | (have H2_ := (Option.bind_some _ _).symm.trans H; rw [hy188]; with_reducible exact H2_) | (have H2_ := (Option.bind_some _ _).symm.trans H; with_reducible exact H2_) | with_reducible exact H | (rw [hy188]; exact H) | exact H
  have Ny188 := Aside0.mk hy188
  clear hy188
  obtain ⟨y191, hy191⟩ : ∃ y_ : List (List Int), y_ = (t169.set (t175 : Int).toNat y188) := ⟨_, rfl⟩
  replace H : (some (y191, t186, t187)) = some (r1, r2, r3) := by first | (rw [hy191]; with_reducible exact H) | (have H2_ := (Option.bind_some _ _).symm.trans H; rw [hy191]; with_reducible exact H2_) | (have H2_ := (Option.bind_some _ _).symm.trans H; with_reducible exact H2_) | with_reducible exact H | (rw [hy191]; exact H) | exact H
  have Ny191 := Aside0.mk hy191
  clear hy191
  simp only [Option.some.injEq, Prod.mk.injEq] at H
  obtain ⟨rfl, rfl, rfl⟩ := H
  go_enter Try.func35, Try.ntmps35
  try go_wp2_with (first | ((with_reducible refine gate_dst (N := 2) rfl ?_); refine box_event ?hg (N := 2) ?hd (cs := #[.slice none 0 0]) (t := 26) ?hr ?_; (case hd => rfl); (case hg => rfl); (case hr => first | (go_simp; done) | (go_simp; rfl)); intro gb168 hg w11 hbox hb; have n0_ := Aside0.mk (IsS58.below (by repeat (first | (with_reducible first | exact HI0.out | apply IsS58.alloc | apply IsS58.drewN | apply IsS58.drew | apply IsS58.set_1 | apply IsS58.set_2) | exact HI0.out)) hb); have n1_ := Aside0.mk (KeepBut.trans (by repeat (first | (with_reducible first | exact HK.out | apply KeepBut.set_ | apply keep_drewN | apply keep_drew | apply keep_alloc) | exact HK.out)) (KeepBut.of_below hb g none) (.inl rfl)); have n2_ := Aside0.mk (below_step (by repeat (first | (with_reducible first | exact HB.out | apply below_alloc | apply pw_below_drewN | apply below_drew1 | refine below_set ?_ (IsS58.ge HI0.out)) | exact HB.out)) hb); have n3_ := Aside0.mk (hbox); have n4_ := Aside0.mk ((by rw [hg]; exact (keep_size (w := w) (g := g) (row := none) (by repeat (first | (with_reducible first | exact HK.out | apply KeepBut.set_ | apply keep_drewN | apply keep_drew | apply keep_alloc) | exact HK.out))) : w.heap.size ≤ gb168)); have n5_ := Aside0.mk ((Nat.le_trans HW0.out (by rw [hg]; exact (keep_size (w := w) (g := g) (row := none) (by repeat (first | (with_reducible first | exact HK.out | apply KeepBut.set_ | apply keep_drewN | apply keep_drew | apply keep_alloc) | exact HK.out))) : w.heap.size ≤ gb168) : w0.heap.size ≤ gb168)); have n6_ := Aside0.mk ((by rw [hg]; exact Nat.ne_of_lt (IsS58.lt (show IsS58 w0 _ g s0_0 s0_1 s0_2 from by repeat (first | (with_reducible first | exact HI0.out | apply IsS58.alloc | apply IsS58.drewN | apply IsS58.drew | apply IsS58.set_1 | apply IsS58.set_2) | exact HI0.out))) : g ≠ gb168)); have n7_ := Aside0.mk ((by rw [hg]; exact Nat.ne_of_gt (IsS58.lt (show IsS58 w0 _ g s0_0 s0_1 s0_2 from by repeat (first | (with_reducible first | exact HI0.out | apply IsS58.alloc | apply IsS58.drewN | apply IsS58.drew | apply IsS58.set_1 | apply IsS58.set_2) | exact HI0.out))) : gb168 ≠ g)); clear HI0; clear HK; clear HB; have HI0 := n0_; have HK := n1_; have HB := n2_; have BK168 := n3_; have GW168 := n4_; have GE168 := n5_; have NB0_168 := n6_; have NB168_0 := n7_; clear n0_ n1_ n2_ n3_ n4_ n5_ n6_ n7_; clear hb hbox hg) | ((with_reducible refine gate_callee (f := 60) rfl ?_); refine goesL_ (some 7) rfl rfl Try.func60 (by kernel_rfl) rfl #[.pointer (some ⟨g, 0, none⟩)] rfl gmp ?_; (with_reducible refine (spec_l1Cur_yard.calls k g s0_0 s0_1 s0_2 t169 t172 t173 w0 _ ?side1 ?side2 A2.out).mono ?_); (case side1 => repeat (first | (with_reducible first | exact HI0.out | apply IsS58.alloc | apply IsS58.drewN | apply IsS58.drew | apply IsS58.set_1 | apply IsS58.set_2 | refine IsS58.far ?_ NB0_168.out _) | exact HI0.out)); (case side2 => repeat (first | (with_reducible first | exact HB.out | apply below_alloc | apply pw_below_drewN | apply below_drew1 | refine below_set ?_ (IsS58.ge HI0.out) | refine below_set ?_ GE168.out) | exact HB.out)); rintro e w12 ⟨v170, rfl, ho0, hi, hb, hk⟩; refine ⟨_, rfl, ?_⟩; have n0_ := Aside0.mk (KeepBut.blk hk (g' := gb168) (o := .cells #[.slice none 0 0] 26 (0, 0)) (bkl BK168) NB168_0.out (by simp)); have n1_ := Aside0.mk (Kd.S_lower ho0 (keep_size (w := w) (g := g) (row := none) (by repeat (first | (with_reducible first | exact HK.out | apply KeepBut.set_ | apply keep_drewN | apply keep_drew | apply keep_alloc | refine keep_far ?_ GW168.out _) | exact HK.out)))); have n2_ := Aside0.mk (KeepBut.trans (by repeat (first | (with_reducible first | exact HK.out | apply KeepBut.set_ | apply keep_drewN | apply keep_drew | apply keep_alloc | refine keep_far ?_ GW168.out _) | exact HK.out)) hk (.inl rfl)); have n3_ := Aside0.mk (hb); have n4_ := Aside0.mk (hi); clear BK168; clear HK; clear HB; clear HI0; have BK168 := n0_; have HO171 := n1_; have HK := n2_; have HB := n3_; have HI0 := n4_; clear n0_ n1_ n2_ n3_ n4_; (try clear hb); (try clear hb2); (try clear hk); (try clear hi); (try clear ho0)) | ((with_reducible refine gate_dst (N := 3) rfl ?_); refine box_event ?hg (N := 3) ?hd (cs := #[.slice none 0 0]) (t := 26) ?hr ?_; (case hd => rfl); (case hg => rfl); (case hr => first | (go_simp; done) | (go_simp; rfl)); intro gb174 hg w13 hbox hb; have n0_ := Aside0.mk (Kd.S_below (sdl HO171) hb); have n1_ := Aside0.mk (IsS58.below (by repeat (first | (with_reducible first | exact HI0.out | apply IsS58.alloc | apply IsS58.drewN | apply IsS58.drew | apply IsS58.set_1 | apply IsS58.set_2 | refine IsS58.far ?_ NB0_168.out _) | exact HI0.out)) hb); have n2_ := Aside0.mk (blk_below (g := gb168) (o := .cells #[.slice none 0 0] 26 (0, 0)) (bkl BK168) hb); have n3_ := Aside0.mk (KeepBut.trans (by repeat (first | (with_reducible first | exact HK.out | apply KeepBut.set_ | apply keep_drewN | apply keep_drew | apply keep_alloc | refine keep_far ?_ GW168.out _) | exact HK.out)) (KeepBut.of_below hb g none) (.inl rfl)); have n4_ := Aside0.mk (below_step (by repeat (first | (with_reducible first | exact HB.out | apply below_alloc | apply pw_below_drewN | apply below_drew1 | refine below_set ?_ (IsS58.ge HI0.out) | refine below_set ?_ GE168.out) | exact HB.out)) hb); have n5_ := Aside0.mk (hbox); have n6_ := Aside0.mk ((by rw [hg]; exact (keep_size (w := w) (g := g) (row := none) (by repeat (first | (with_reducible first | exact HK.out | apply KeepBut.set_ | apply keep_drewN | apply keep_drew | apply keep_alloc | refine keep_far ?_ GW168.out _) | exact HK.out))) : w.heap.size ≤ gb174)); have n7_ := Aside0.mk ((Nat.le_trans HW0.out (by rw [hg]; exact (keep_size (w := w) (g := g) (row := none) (by repeat (first | (with_reducible first | exact HK.out | apply KeepBut.set_ | apply keep_drewN | apply keep_drew | apply keep_alloc | refine keep_far ?_ GW168.out _) | exact HK.out))) : w.heap.size ≤ gb174) : w0.heap.size ≤ gb174)); have n8_ := Aside0.mk ((by rw [hg]; exact Nat.ne_of_lt (blk_lt (g := gb168) (o := .cells #[.slice none 0 0] 26 (0, 0)) (bkl BK168)) : gb168 ≠ gb174)); have n9_ := Aside0.mk ((by rw [hg]; exact Nat.ne_of_gt (blk_lt (g := gb168) (o := .cells #[.slice none 0 0] 26 (0, 0)) (bkl BK168)) : gb174 ≠ gb168)); have n10_ := Aside0.mk ((by rw [hg]; exact Nat.ne_of_lt (IsS58.lt (show IsS58 w0 _ g s0_0 t172 t173 from by repeat (first | (with_reducible first | exact HI0.out | apply IsS58.alloc | apply IsS58.drewN | apply IsS58.drew | apply IsS58.set_1 | apply IsS58.set_2 | refine IsS58.far ?_ NB0_168.out _) | exact HI0.out))) : g ≠ gb174)); have n11_ := Aside0.mk ((by rw [hg]; exact Nat.ne_of_gt (IsS58.lt (show IsS58 w0 _ g s0_0 t172 t173 from by repeat (first | (with_reducible first | exact HI0.out | apply IsS58.alloc | apply IsS58.drewN | apply IsS58.drew | apply IsS58.set_1 | apply IsS58.set_2 | refine IsS58.far ?_ NB0_168.out _) | exact HI0.out))) : gb174 ≠ g)); clear HO171; clear HI0; clear BK168; clear HK; clear HB; have HO171 := n0_; have HI0 := n1_; have BK168 := n2_; have HK := n3_; have HB := n4_; have BK174 := n5_; have GW174 := n6_; have GE174 := n7_; have NB168_174 := n8_; have NB174_168 := n9_; have NB0_174 := n10_; have NB174_0 := n11_; clear n0_ n1_ n2_ n3_ n4_ n5_ n6_ n7_ n8_ n9_ n10_ n11_; clear hb hbox hg; obtain ⟨Ao14, co14, eo14⟩ := Kd.S_slice HO171.out; subst eo14; have hnb15 := NB174_168.out; have hnc15 := NB168_174.out; have hnb16 := NB174_0.out; have hnc16 := NB0_174.out; have hcz17_0 : w13.cell? ⟨gb174, 0, none⟩ = some (.slice none 0 0) := (blk_cell BK174.out 0).trans rfl; have hfz17_0 := blk_frozen BK174.out 0) | ((with_reducible refine gate_callee (f := 44) rfl ?_); refine goesL_ (some 12) rfl rfl Try.func44 (by kernel_rfl) rfl #[.pointer (some ⟨g, 0, none⟩), .int .i64 (t169.length : Int)] rfl gmp ?_; (with_reducible refine (spec_l1Cur_pick.calls g s0_0 t172 t173 (t169.length : Int) t175 t176 t177 w0 _ ?side1 ?side2 A3.out).mono ?_); (case side1 => repeat (first | (with_reducible first | exact HI0.out | apply IsS58.alloc | apply IsS58.drewN | apply IsS58.drew | apply IsS58.set_1 | apply IsS58.set_2 | refine IsS58.far ?_ NB0_168.out _ | refine IsS58.far ?_ NB0_174.out _) | exact HI0.out)); (case side2 => repeat (first | (with_reducible first | exact HB.out | apply below_alloc | apply pw_below_drewN | apply below_drew1 | refine below_set ?_ (IsS58.ge HI0.out) | refine below_set ?_ GE168.out | refine below_set ?_ GE174.out) | exact HB.out)); rintro e w18 ⟨rfl, hi, hb, hk⟩; refine ⟨_, rfl, ?_⟩; have n0_ := Aside0.mk (KeepBut.blk hk (g' := gb168) (o := .cells #[.slice none 0 0] 26 (0, 0)) (by (with_reducible repeat (first | refine blk_drewN ?_ _ | refine blk_drew ?_ | refine blk_alloc ?_ _)); refine blk_far ?_ NB168_174.out _; (with_reducible repeat (first | refine blk_drewN ?_ _ | refine blk_drew ?_ | refine blk_alloc ?_ _)); exact BK168.out) NB168_0.out (by simp)); have n1_ := Aside0.mk (Kd.S_mono (Kd.S_keep (IsS58.apartS (show IsS58 w0 _ g s0_0 t172 t173 from by repeat (first | (with_reducible first | exact HI0.out | apply IsS58.alloc | apply IsS58.drewN | apply IsS58.drew | apply IsS58.set_1 | apply IsS58.set_2 | refine IsS58.far ?_ NB0_168.out _ | refine IsS58.far ?_ NB0_174.out _) | exact HI0.out)) (by (with_reducible repeat (first | apply Kd.S_alloc | apply Kd.S_drewN | apply Kd.S_drew)); exact (Kd.S_mono (Kd.S_far (p := ⟨gb174, 0, none⟩) (Kd.S_types HO171.out BK174.out (by decide)) (fun _ hk => hk.2) (.slice Ao14 t169.length co14)) (fun _ h_ => h_.1))) (by decide)) hk (fun _ h => h.2)) (fun _ h => h.1)); have n2_ := Aside0.mk (KeepBut.blk hk (g' := gb174) (o := .cells #[.slice Ao14 t169.length co14] 26 (0, 0)) (by (with_reducible repeat (first | refine blk_drewN ?_ _ | refine blk_drew ?_ | refine blk_alloc ?_ _)); refine blk_put (cs := #[.slice none 0 0]) ?_ 0 _ rfl; (with_reducible repeat (first | refine blk_drewN ?_ _ | refine blk_drew ?_ | refine blk_alloc ?_ _)); exact BK174.out) NB174_0.out (by simp)); have n3_ := Aside0.mk (KeepBut.trans (by repeat (first | (with_reducible first | exact HK.out | apply KeepBut.set_ | apply keep_drewN | apply keep_drew | apply keep_alloc | refine keep_far ?_ GW168.out _ | refine keep_far ?_ GW174.out _) | exact HK.out)) hk (.inl rfl)); have n4_ := Aside0.mk (hb); have n5_ := Aside0.mk (hi); clear BK168; clear HO171; clear BK174; clear HK; clear HB; clear HI0; have BK168 := n0_; have HO171 := n1_; have BK174 := n2_; have HK := n3_; have HB := n4_; have HI0 := n5_; clear n0_ n1_ n2_ n3_ n4_ n5_; (try clear hb); (try clear hb2); (try clear hk); (try clear hi)) | ((with_reducible refine gate_callee (f := 44) rfl ?_); refine goesL_ (some 14) rfl rfl Try.func44 (by kernel_rfl) rfl #[.pointer (some ⟨g, 0, none⟩), .int .i64 24] rfl gmp ?_; (with_reducible refine (spec_l1Cur_pick.calls g s0_0 t176 t177 24 t178 t179 t180 w0 _ ?side1 ?side2 A4.out).mono ?_); (case side1 => repeat (first | (with_reducible first | exact HI0.out | apply IsS58.alloc | apply IsS58.drewN | apply IsS58.drew | apply IsS58.set_1 | apply IsS58.set_2 | refine IsS58.far ?_ NB0_168.out _ | refine IsS58.far ?_ NB0_174.out _) | exact HI0.out)); (case side2 => repeat (first | (with_reducible first | exact HB.out | apply below_alloc | apply pw_below_drewN | apply below_drew1 | refine below_set ?_ (IsS58.ge HI0.out) | refine below_set ?_ GE168.out | refine below_set ?_ GE174.out) | exact HB.out)); rintro e w19 ⟨rfl, hi, hb, hk⟩; refine ⟨_, rfl, ?_⟩; have n0_ := Aside0.mk (KeepBut.blk hk (g' := gb168) (o := .cells #[.slice none 0 0] 26 (0, 0)) (bkl BK168) NB168_0.out (by simp)); have n1_ := Aside0.mk (Kd.S_mono (Kd.S_keep (IsS58.apartS (show IsS58 w0 _ g s0_0 t176 t177 from by repeat (first | (with_reducible first | exact HI0.out | apply IsS58.alloc | apply IsS58.drewN | apply IsS58.drew | apply IsS58.set_1 | apply IsS58.set_2 | refine IsS58.far ?_ NB0_168.out _ | refine IsS58.far ?_ NB0_174.out _) | exact HI0.out)) (sdl HO171) (by decide)) hk (fun _ h => h.2)) (fun _ h => h.1)); have n2_ := Aside0.mk (KeepBut.blk hk (g' := gb174) (o := .cells #[.slice Ao14 t169.length co14] 26 (0, 0)) (bkl BK174) NB174_0.out (by simp)); have n3_ := Aside0.mk (KeepBut.trans (by repeat (first | (with_reducible first | exact HK.out | apply KeepBut.set_ | apply keep_drewN | apply keep_drew | apply keep_alloc | refine keep_far ?_ GW168.out _ | refine keep_far ?_ GW174.out _) | exact HK.out)) hk (.inl rfl)); have n4_ := Aside0.mk (hb); have n5_ := Aside0.mk (hi); clear BK168; clear HO171; clear BK174; clear HK; clear HB; clear HI0; have BK168 := n0_; have HO171 := n1_; have BK174 := n2_; have HK := n3_; have HB := n4_; have HI0 := n5_; clear n0_ n1_ n2_ n3_ n4_ n5_; (try clear hb); (try clear hb2); (try clear hk); (try clear hi)))
  have n0_ := Aside0.mk (Kd.S_drew HO171.out)
  have n1_ := Aside0.mk (blk_drew BK168.out)
  have n2_ := Aside0.mk (blk_drew BK174.out)
  have n3_ := Aside0.mk (IsS58.drew HI0.out)
  have n4_ := Aside0.mk (keep_drew HK.out)
  have n5_ := Aside0.mk (below_drew1 HB.out)
  clear HO171 BK168 BK174 HI0 HK HB
  have HO171 := n0_
  have BK168 := n1_
  have BK174 := n2_
  have HI0 := n3_
  have HK := n4_
  have HB := n5_
  clear n0_ n1_ n2_ n3_ n4_ n5_
  have p181 : 0 ≤ (t175 : Int) := oda
  have q181 : t175 < (t169.length : Int) := oda
  obtain ⟨ad181, A181_0, c181_0, e181, hx181_0, hl181_0, hi181_0⟩ := at_L2 (Kd.S_reads' HO171.out).2.2 t175 p181 q181
  cases e181
  obtain ⟨ce181, hce181, hMe181, hcc181⟩ := Kd.S_get HO171.out [] t175 p181 (by first | exact q181 | exact oda | (have e_ := (Kd.S_reads' HO171.out).1; omega))
  obtain ⟨ve181_0, rfl, ge181_0⟩ := hMe181
  have hv181_0 := hcc181 0 _ rfl
  rw [Nat.add_zero, show ((Kd.slice 3 (Kd.int .i64))).sz = 1 from rfl, Nat.mul_one] at hv181_0
  replace hv181_0 := Option.some.inj (hv181_0.symm.trans hx181_0)
  rw [hv181_0] at ge181_0
  have HL181_0 := Aside0.mk (show Kd.R (Kd.int .i64) 3 _ _ _ _ (rd_L2 t169 t175) from ge181_0)
  clear hv181_0 ge181_0
  have HX181_0 := Aside0.mk hx181_0
  clear hcc181 hce181
  have HR181_0 := Aside0.mk hi181_0
  have HC181_0 := Aside0.mk hl181_0
  clear hi181_0 hl181_0
  replace p181 := eq_true p181
  replace q181 := eq_true q181
  refine start_ (n := 15) (S := fun w' => w'.cell? ⟨gb174, 0, none⟩ = some (.slice (some ad181) t169.length co14) ∧ w'.cell? (ad181.add (t175).toNat) = some (.slice A181_0 (rd_L2 t169 t175).length c181_0)) (ds := [14]) #[false, false, false, false, false, false, false, false, false, false, false, false, false, false, false] (by kernel_rfl) rfl rfl ⟨(blk_cell BK174.out 0).trans rfl, hx181_0⟩ (fun hHeld => ?_); refine with_tabW spec_l1Cur_anyYard.tab5 spec_l1Cur_anyYard.bits5 (fun HT_ HW_ => ?_)
  generalize w19.drew = w20 at HO171 BK168 BK174 HI0 HK HB HL181_0 HR181_0 HX181_0 hx181_0 hHeld ⊢
  refine pure_ (i := 0) (N := some 17) (v := ?_) (a' := ?_) #[true, false, false, false, false, false, false, false, false, false, false, false, false, false, false] rfl rfl (any_of HT_.out (by kernel_rfl)) (fun _ _ _ h => h) (Or.inl ⟨by rfl, ?_⟩) ?_ ?_
  rotate_left
  ·intro w'
   go_simp
   with_reducible rfl
  rotate_left
  ·simp only [putS]
   rfl
  refine pure_ (i := 2) (N := some 19) (v := ?_) (a' := ?_) #[true, false, true, false, false, false, false, false, false, false, false, false, false, false, false] rfl rfl (any_of HT_.out (by kernel_rfl)) (fun _ _ _ h => h) (Or.inl ⟨by rfl, ?_⟩) ?_ ?_
  rotate_left
  ·intro w'
   go_simp
   with_reducible rfl
  rotate_left
  ·simp only [putS]
   rfl
  refine pure_ (i := 3) (N := some 20) (v := ?_) (a' := ?_) #[true, false, true, true, false, false, false, false, false, false, false, false, false, false, false] rfl rfl (any_of HT_.out (by kernel_rfl)) (fun _ _ _ h => h) (Or.inl ⟨by rfl, ?_⟩) ?_ ?_
  rotate_left
  ·intro w'
   go_simp
   with_reducible rfl
  rotate_left
  ·simp only [putS]
   rfl
  refine pure_ (i := 5) (N := some 22) (v := ?_) (a' := ?_) #[true, false, true, true, false, true, false, false, false, false, false, false, false, false, false] rfl rfl (any_of HT_.out (by kernel_rfl)) (fun _ _ _ h => h) (Or.inl ⟨by rfl, ?_⟩) ?_ ?_
  rotate_left
  ·intro w'
   go_simp
   with_reducible rfl
  rotate_left
  ·simp only [putS]
   rfl
  refine pure_ (i := 8) (N := some 25) (v := ?_) (a' := ?_) #[true, false, true, true, false, true, false, false, true, false, false, false, false, false, false] rfl rfl (any_of HT_.out (by kernel_rfl)) (fun _ _ _ h => h) (Or.inl ⟨by rfl, ?_⟩) ?_ ?_
  rotate_left
  ·intro w'
   go_simp
   with_reducible rfl
  rotate_left
  ·simp only [putS]
   rfl
  refine take_ (i := 1) (N := some 18) (v := ?_) (a' := ?_) #[true, true, true, true, false, true, false, false, true, false, false, false, false, false, false] rfl rfl (take_ofW HT_.out HW_.out (by kernel_rfl)) (fun _ _ _ h => h) (Or.inl ⟨by rfl, ?_⟩) hHeld ?_ ?_
  rotate_left
  ·rintro w' ⟨s0, s1⟩
   go_simp
   with_reducible rfl
  rotate_left
  ·simp only [putS]
   rfl
  refine take_ (i := 4) (N := some 21) (v := ?_) (a' := ?_) #[true, true, true, true, true, true, false, false, true, false, false, false, false, false, false] rfl rfl (take_ofW HT_.out HW_.out (by kernel_rfl)) (fun _ _ _ h => h) (Or.inl ⟨by rfl, ?_⟩) hHeld ?_ ?_
  rotate_left
  ·rintro w' ⟨s0, s1⟩
   go_simp
   with_reducible rfl
  rotate_left
  ·simp only [putS]
   rfl
  refine pure_ (i := 6) (N := some 23) (v := ?_) (a' := ?_) #[true, true, true, true, true, true, true, false, true, false, false, false, false, false, false] rfl rfl (any_of HT_.out (by kernel_rfl)) (fun _ _ _ h => h) (Or.inl ⟨by rfl, ?_⟩) ?_ ?_
  rotate_left
  ·intro w'
   go_simp
   with_reducible rfl
  rotate_left
  ·simp only [putS]
   rfl
  refine take_ (i := 7) (N := some 24) (v := ?_) (a' := ?_) #[true, true, true, true, true, true, true, true, true, false, false, false, false, false, false] rfl rfl (take_ofW HT_.out HW_.out (by kernel_rfl)) (fun _ _ _ h => h) (Or.inl ⟨by rfl, ?_⟩) hHeld ?_ ?_
  rotate_left
  ·rintro w' ⟨s0, s1⟩
   go_simp
   with_reducible rfl
  rotate_left
  ·simp only [putS]
   rfl
  refine one_ (i := 9) (N := some 26) #[true, true, true, true, true, true, true, true, true, true, false, false, false, false, false] rfl rfl (one_of HT_.out (by kernel_rfl)) (by decide) (fun K hK => ?_)
  refine Kd.R_lit_step (Kd.int .i64) _ 3 ?hg (N := 26) ?hd (xs := ([0, 100, 99, 1] : List Int)) (inner := [.int .i64 0, .int .i64 100, .int .i64 99, .int .i64 1]) (ok := fun _ => True) (okp := fun _ => True) ?hr ?hp (fun _ hk => hk) trivial (Below.refl _ _) (Nat.le_refl _) (by simp) ?_; (case hd => rfl); (case hg => rfl); (case hr => first | (go_simp; done) | (go_simp; rfl)); (case hp => exact (Reps.one (show Kd.M (Kd.int .i64) _ _ _ 0 [.int .i64 0] from rfl) (Reps.one (show Kd.M (Kd.int .i64) _ _ _ 100 [.int .i64 100] from rfl) (Reps.one (show Kd.M (Kd.int .i64) _ _ _ 99 [.int .i64 99] from rfl) (Reps.one (show Kd.M (Kd.int .i64) _ _ _ 1 [.int .i64 1] from rfl) (Reps.none _ _))))))
  intro v183 w21 ho22 hb hg_ hnew_
  have HS1_ := (hb.cell (World.block_lt_of_cell? _ _ (hHeld.2))).trans (hHeld.2)
  clear hg_ hnew_
  (first | rw [← Ny182.out] at ho22 | (simp only [Int.reduceToNat] at ho22; rw [← Ny182.out] at ho22))
  have n0_ := Aside0.mk (Kd.S_elder' (sdl HO171) (Kd.R_base ho22) hb)
  have n1_ := Aside0.mk (Kd.R_elder' (rdl HL181_0) (Kd.R_base ho22) hb)
  have n2_ := Aside0.mk (Kd.R_lower (Kd.R_new' ho22 (Kd.R_lt (rdl HL181_0))) (keep_size (w := w) (g := g) (row := none) (by repeat (first | (with_reducible first | exact HK.out | apply KeepBut.set_ | apply keep_drewN | apply keep_drew | apply keep_alloc | refine keep_far ?_ GW168.out _ | refine keep_far ?_ GW174.out _) | exact HK.out))))
  have n3_ := Aside0.mk (IsS58.below (by repeat (first | (with_reducible first | exact HI0.out | apply IsS58.alloc | apply IsS58.drewN | apply IsS58.drew | apply IsS58.set_1 | apply IsS58.set_2 | refine IsS58.far ?_ NB0_168.out _ | refine IsS58.far ?_ NB0_174.out _) | exact HI0.out)) hb)
  have n4_ := Aside0.mk (blk_below (g := gb168) (o := .cells #[.slice none 0 0] 26 (0, 0)) (bkl BK168) hb)
  have n5_ := Aside0.mk (blk_below (g := gb174) (o := .cells #[.slice (some ad181) t169.length co14] 26 (0, 0)) (bkl BK174) hb)
  have n6_ := Aside0.mk (Kd.C_below (cdl HR181_0.out) hb)
  have n7_ := Aside0.mk (pw_cell_below hb HX181_0.out)
  have n8_ := Aside0.mk (KeepBut.trans (by repeat (first | (with_reducible first | exact HK.out | apply KeepBut.set_ | apply keep_drewN | apply keep_drew | apply keep_alloc | refine keep_far ?_ GW168.out _ | refine keep_far ?_ GW174.out _) | exact HK.out)) (KeepBut.of_below hb g none) (.inl rfl))
  have n9_ := Aside0.mk (below_step (by repeat (first | (with_reducible first | exact HB.out | apply below_alloc | apply pw_below_drewN | apply below_drew1 | refine below_set ?_ (IsS58.ge HI0.out) | refine below_set ?_ GE168.out | refine below_set ?_ GE174.out) | exact HB.out)) hb)
  clear HO171 HL181_0 HI0 BK168 BK174 HR181_0 HX181_0 HK HB
  have HO171 := n0_
  have HL181_0 := n1_
  have HO184 := n2_
  have HI0 := n3_
  have BK168 := n4_
  have BK174 := n5_
  have HR181_0 := n6_
  have HX181_0 := n7_
  have HK := n8_
  have HB := n9_
  clear n0_ n1_ n2_ n3_ n4_ n5_ n6_ n7_ n8_ n9_ hb ho22
  obtain ⟨Ao23, co23, eo23⟩ := Kd.R_slice HO184.out
  (first | subst eo23 | (injection eo23 with f1_ f2_ f3_; have f4_ := f1_.symm; have f5_ := f3_.symm; clear f1_ f2_ f3_; subst f4_; subst f5_))
  refine hK.out _ _ ⟨(blk_cell BK174.out 0).trans rfl, HS1_⟩ (fun hHeld => ?_)
  clear hK K
  refine norm_ (a' := ?_) ?_ ?_
  rotate_left
  ·show Act.put _ (some 26) _ = _
   simp only [putS]
   rfl
  refine one_ (i := 10) (N := some 27) #[true, true, true, true, true, true, true, true, true, true, true, false, false, false, false] rfl rfl (one_of HT_.out (by kernel_rfl)) (by decide) (fun K hK => ?_)
  refine goes_ Try.func36 (by kernel_rfl) rfl #[.pointer (some ⟨g, 0, none⟩), .slice Ao23 y182.length co23] (by rfl) rfl rfl gmp ?_
  with_reducible refine (spec_l1Cur_among.calls g s0_0 t179 t180 _ _ y182 t185 t186 t187 w0 _ ?side1 ?side2 ?side3 ?side4 ?side5 A8.out).mono ?_
  (case side1 => repeat (first | (with_reducible first | exact HI0.out | apply IsS58.alloc | apply IsS58.drewN | apply IsS58.drew | apply IsS58.set_1 | apply IsS58.set_2 | refine IsS58.far ?_ NB0_168.out _ | refine IsS58.far ?_ NB0_174.out _) | exact HI0.out))
  (case side2 => repeat (first | (with_reducible first | exact HB.out | apply below_alloc | apply pw_below_drewN | apply below_drew1 | refine below_set ?_ (IsS58.ge HI0.out) | refine below_set ?_ GE168.out | refine below_set ?_ GE174.out) | exact HB.out))
  (case side3 => exact cdl (Kd.R_reads' HO184.out).2.2)
  (case side4 => exact (Kd.R_reads' HO184.out).2.1)
  (case side5 => exact far_slice (IsS58.own_ne HI0.out HO184.out (by decide)))
  rintro e w24 ⟨rfl, hi, hb, hk⟩
  have HS1_ := keep_cell hk (hHeld.2) (by first | (rw [add_block]; exact Kd.own_blk (IsS58.own_neS HI0.out HO171.out (by decide))) | (show (Addr.add _ _).block ≠ _; rw [add_block]; exact Kd.own_blk (IsS58.own_neS HI0.out HO171.out (by decide))) | exact Kd.own_blk (IsS58.own_neS HI0.out HO171.out (by decide)))
  refine ⟨_, rfl, ?_⟩
  have n0_ := Aside0.mk (KeepBut.blk hk (g' := gb168) (o := .cells #[.slice none 0 0] 26 (0, 0)) (bkl BK168) NB168_0.out (by simp))
  have n1_ := Aside0.mk (Kd.S_mono (Kd.S_keep (IsS58.apartS (show IsS58 w0 _ g s0_0 t179 t180 from by repeat (first | (with_reducible first | exact HI0.out | apply IsS58.alloc | apply IsS58.drewN | apply IsS58.drew | apply IsS58.set_1 | apply IsS58.set_2 | refine IsS58.far ?_ NB0_168.out _ | refine IsS58.far ?_ NB0_174.out _) | exact HI0.out)) (sdl HO171) (by decide)) hk (fun _ h => h.2)) (fun _ h => h.1))
  have n2_ := Aside0.mk (KeepBut.blk hk (g' := gb174) (o := .cells #[.slice (some ad181) t169.length co14] 26 (0, 0)) (bkl BK174) NB174_0.out (by simp))
  have n3_ := Aside0.mk (Kd.R_mono (Kd.R_keep (IsS58.apart (show IsS58 w0 _ g s0_0 t179 t180 from by repeat (first | (with_reducible first | exact HI0.out | apply IsS58.alloc | apply IsS58.drewN | apply IsS58.drew | apply IsS58.set_1 | apply IsS58.set_2 | refine IsS58.far ?_ NB0_168.out _ | refine IsS58.far ?_ NB0_174.out _) | exact HI0.out)) (rdl HL181_0) (by decide)) hk (fun _ h => h.2)) (fun _ h => h.1))
  have n4_ := Aside0.mk (keep_cell hk HX181_0.out (by first | (rw [add_block]; exact Kd.own_blk (IsS58.own_neS HI0.out HO171.out (by decide))) | (show (Addr.add _ _).block ≠ _; rw [add_block]; exact Kd.own_blk (IsS58.own_neS HI0.out HO171.out (by decide))) | exact Kd.own_blk (IsS58.own_neS HI0.out HO171.out (by decide)) | (dsimp only; exact Kd.own_blk (IsS58.own_neS HI0.out HO171.out (by decide)))))
  have n5_ := Aside0.mk (Kd.R_mono (Kd.R_keep (IsS58.apart (show IsS58 w0 _ g s0_0 t179 t180 from by repeat (first | (with_reducible first | exact HI0.out | apply IsS58.alloc | apply IsS58.drewN | apply IsS58.drew | apply IsS58.set_1 | apply IsS58.set_2 | refine IsS58.far ?_ NB0_168.out _ | refine IsS58.far ?_ NB0_174.out _) | exact HI0.out)) (rdl HO184) (by decide)) hk (fun _ h => h.2)) (fun _ h => h.1))
  have n6_ := Aside0.mk (KeepBut.trans (by repeat (first | (with_reducible first | exact HK.out | apply KeepBut.set_ | apply keep_drewN | apply keep_drew | apply keep_alloc | refine keep_far ?_ GW168.out _ | refine keep_far ?_ GW174.out _) | exact HK.out)) hk (.inl rfl))
  have n7_ := Aside0.mk (hb)
  have n8_ := Aside0.mk (hi)
  clear BK168 HO171 BK174 HL181_0 HX181_0 HO184 HK HB HI0
  have BK168 := n0_
  have HO171 := n1_
  have BK174 := n2_
  have HL181_0 := n3_
  have HX181_0 := n4_
  have HO184 := n5_
  have HK := n6_
  have HB := n7_
  have HI0 := n8_
  clear n0_ n1_ n2_ n3_ n4_ n5_ n6_ n7_ n8_
  (try clear hb)
  (try clear hb2)
  (try clear hk)
  (try clear hi)
  have n_ := Aside0.mk (Kd.S_mono (ok' := (fun k_ => some k_ ≠ (.slice Ao23 y182.length co23 : Value).ownBlock)) HO171.out (fun k_ hk => hk.2))
  clear HO171
  have HO171 := n_
  clear n_
  obtain ⟨go25, co25, eo25, gb25, gl25, cl25, HG25⟩ := Kd.S_form HO171.out (by have h_ : (t175 : Int) < ((t169.length : Int) : Int) := oda; have h2_ : 0 ≤ (t175 : Int) := (oda); omega)
  (first | cases eo25 | (injection eo25 with ea_ en_ ec_; (first | subst ea_ | (injection ea_ with ea_; subst ea_)); subst ec_; clear en_))
  have GB25 := Aside0.mk gb25
  have GG25 := Aside0.mk HG25
  clear gb25 gl25 HG25
  (first | simp only [add_plain] at hx181_0 | skip)
  obtain ⟨oki25, ce25, hcl25, hM25, hcc25, _, _, hH25⟩ := Kd.S_elem HO171.out [] (t175 : Int) (oda) (by have h_ : (t175 : Int) < ((t169.length : Int) : Int) := oda; first | exact h_ | (have e_ := (Kd.S_reads' HO171.out).1; omega) | simpa using h_)
  obtain ⟨ve25_0, rfl, ge25_0⟩ := hM25
  have hv25 := hcc25 0 _ rfl
  have hX25 := HX181_0.out
  (try simp only [add_plain] at hX25)
  (try simp only [Nat.add_zero] at hv25)
  (try rw [show ((Kd.slice 3 (Kd.int .i64))).sz = 1 from rfl, Nat.mul_one] at hv25)
  replace hv25 := Option.some.inj (hv25.symm.trans hX25)
  subst hv25
  clear hX25 hcc25 hcl25
  have UU25 := Aside0.mk (show Kd.R (Kd.int .i64) 3 _ w.heap.size oki25 (.slice A181_0 (rd_L2 t169 t175).length c181_0) (rd_L2 t169 t175) from ge25_0)
  have HH25 := Aside0.mk hH25
  have HN25 := Aside0.mk (Kd.S_reads' HO171.out).1
  clear hH25 ge25_0
  refine hK.out _ _ ⟨(blk_cell BK174.out 0).trans rfl, HS1_⟩ (fun hHeld => ?_)
  clear hK K
  refine norm_ (a' := ?_) ?_ ?_
  rotate_left
  ·show Act.put _ (some 27) _ = _
   simp only [putS]
   rfl
  refine one_ (i := 11) (N := some 28) #[true, true, true, true, true, true, true, true, true, true, true, true, false, false, false] rfl rfl (one_of HT_.out (by kernel_rfl)) (by decide) (fun K hK => ?_)
  refine value_ (w1 := ?_) (v := ?_) (by rfl) rfl ?_ ?_
  rotate_left 2
  ·go_simp
   constructor
   ·rfl
   rfl
  refine hK.out _ _ ⟨(blk_cell (blk_alloc BK174.out _) 0).trans rfl, (World.cell?_alloc_lt _ _ _ (World.block_lt_of_cell? _ _ (hHeld.2))).trans (hHeld.2)⟩ (fun hHeld => ?_)
  clear hK K
  refine norm_ (a' := ?_) ?_ ?_
  rotate_left
  ·show Act.put _ (some 28) _ = _
   simp only [putS]
   rfl
  refine one_ (i := 12) (N := some 29) #[true, true, true, true, true, true, true, true, true, true, true, true, true, false, false] rfl rfl (one_of HT_.out (by kernel_rfl)) (by decide) (fun K hK => ?_)
  refine Kd.R_append_step (Kd.int .i64) w.heap.size (by rfl) (.tmp 24) (.tmp 28) 28 3 (.int .i64 0) 8 rfl Try.underlying28 info3 rfl (by decide) (by omega) (.slice A181_0 (rd_L2 t169 t175).length c181_0) (rd_L2 t169 t175) t185 [.int .i64 t185] (fun k_ => oki25 k_ ∨ ((fun k_ => some k_ ≠ (.slice Ao23 y182.length co23 : Value).ownBlock)) k_ ∧ w24.heap.size ≤ k_) (fun _ => False) rfl rfl ?aP (fun _ hk => hk.elim) ?aF ?aO (Below.refl _ _) ?aS ?aL ?_
  (case aP => exact rfl)
  (case aF => exact (fun k_ hk => .inr ⟨Kd.fresh' (Kd.R_lt (rdl HO184)) k_ hk, hk⟩))
  (case aO => exact (by (with_reducible repeat (first | apply Kd.R_alloc | apply Kd.R_drewN | apply Kd.R_drew)); exact Kd.R_mono UU25.out (fun _ hk => .inl hk)))
  (case aS => exact (keep_size (w := w) (g := g) (row := none) (by repeat (first | (with_reducible first | exact HK.out | apply KeepBut.set_ | apply keep_drewN | apply keep_drew | apply keep_alloc | refine keep_far ?_ GW168.out _ | refine keep_far ?_ GW174.out _) | exact HK.out))))
  (case aL => have := LMc9.out; omega)
  intro v189 w26 ho hb hg hat
  (first | have HS1_ := cell_grown hg (hHeld.2) (by first | (rw [add_block]; exact (fun e_ => ((HL181_0.out.1 _ e_.symm).1.2) rfl)) | (show some (Addr.add _ _).block ≠ _; rw [add_block]; exact (fun e_ => ((HL181_0.out.1 _ e_.symm).1.2) rfl)) | exact (fun e_ => ((HL181_0.out.1 _ e_.symm).1.2) rfl)) | have HS1_ := cell_grown hg (cell_unalloc (hHeld.2) (by first | (rw [add_block]; exact Kd.S_lt HO171.out _ rfl) | (show (Addr.add _ _).block < _; rw [add_block]; exact Kd.S_lt HO171.out _ rfl) | exact Kd.S_lt HO171.out _ rfl)) (by first | (rw [add_block]; exact (fun e_ => ((HL181_0.out.1 _ e_.symm).1.2) rfl)) | (show some (Addr.add _ _).block ≠ _; rw [add_block]; exact (fun e_ => ((HL181_0.out.1 _ e_.symm).1.2) rfl)) | exact (fun e_ => ((HL181_0.out.1 _ e_.symm).1.2) rfl)))
  rw [← Ny188.out] at ho
  have n0_ := Aside0.mk (IsS58.grown (by repeat (first | (with_reducible first | exact HI0.out | apply IsS58.alloc | apply IsS58.drewN | apply IsS58.drew | apply IsS58.set_1 | apply IsS58.set_2 | refine IsS58.far ?_ NB0_168.out _ | refine IsS58.far ?_ NB0_174.out _) | exact HI0.out)) hg (IsS58.own_ne HI0.out HL181_0.out (by decide)))
  have n1_ := Aside0.mk (blk_grown (g := gb168) (o := .cells #[.slice none 0 0] 26 (0, 0)) (bkl BK168) hg (Kd.R_ne HL181_0.out BK168.out (by decide)))
  have n2_ := Aside0.mk (blk_grown (g := gb174) (o := .cells #[.slice (some ⟨go25, 0, none⟩) t169.length co14] 26 (0, 0)) (bkl BK174) hg (Kd.R_ne HL181_0.out BK174.out (by decide)))
  have n3_ := Aside0.mk (Kd.R_grown2 (rdl HO184) rfl hg (fun k_ e_ => (HL181_0.out.1 k_ e_).2))
  have n4_ := Aside0.mk (below_weaken (by repeat (first | (with_reducible first | exact HB.out | apply below_alloc | apply pw_below_drewN | apply below_drew1 | refine below_set ?_ (IsS58.ge HI0.out) | refine below_set ?_ GE168.out | refine below_set ?_ GE174.out) | exact HB.out)) HL.out hb)
  have n5_ := Aside0.mk (KeepBut.trans (by repeat (first | (with_reducible first | exact HK.out | apply KeepBut.set_ | apply keep_drewN | apply keep_drew | apply keep_alloc | refine keep_far ?_ GW168.out _ | refine keep_far ?_ GW174.out _) | exact HK.out)) (KeepBut.of_grown hg g) (Kd.R_base2 HL181_0.out))
  have n6_ := Aside0.mk (Kd.H_grown (Kd.H_widen (by repeat (first | exact HH25.out | refine Kd.H_alloc ?_ _ | refine Kd.H_drewN ?_ _ | refine Kd.H_drew ?_))) hg (fun k_ e_ => .inl (UU25.out.1 k_ e_)))
  have n7_ := Aside0.mk (ho)
  clear HI0 BK168 BK174 HO184 HB HK HH25 HO171 UU25 HL181_0
  have HI0 := n0_
  have BK168 := n1_
  have BK174 := n2_
  have HO184 := n3_
  have HB := n4_
  have HK := n5_
  have HH25 := n6_
  have HO190 := n7_
  clear n0_ n1_ n2_ n3_ n4_ n5_ n6_ n7_ ho hb hg hat
  have p10 : 0 ≤ (t175 : Int) := oda
  have q10 : (t175 : Int) < ((t169.length : Int) : Int) := oda
  replace p10 := eq_true p10
  replace q10 := eq_true q10
  obtain ⟨Ao29, co29, eo29⟩ := Kd.R_slice HO190.out
  (first | subst eo29 | (injection eo29 with f1_ f2_ f3_; have f4_ := f1_.symm; have f5_ := f3_.symm; clear f1_ f2_ f3_; subst f4_; subst f5_))
  obtain ⟨_, _, hraw27, _, _, hcc27, _⟩ := Kd.H_raw HH25.out (oda) (by have h_ : (t175 : Int) < ((t169.length : Int) : Int) := oda; first | exact h_ | (have e_ := (HN25.out); omega) | simpa using h_)
  obtain ⟨_, hfr27⟩ := Kd.H_at HH25.out (oda) (by have h_ : (t175 : Int) < ((t169.length : Int) : Int) := oda; first | exact h_ | (have e_ := (HN25.out); omega) | simpa using h_)
  have hx27_0 := hcc27 0 _ rfl
  have hf27_0 := hfr27 0
  (try simp only [Nat.add_zero] at hx27_0 hf27_0)
  (try rw [show ((Kd.slice 3 (Kd.int .i64))).sz = 1 from rfl, Nat.mul_one] at hx27_0)
  (try rw [show ((Kd.slice 3 (Kd.int .i64))).sz = 1 from rfl, Nat.mul_one] at hf27_0)
  have HP27 := Kd.S_seg0 HH25.out (oda) (by have h_ : (t175 : Int) < ((t169.length : Int) : Int) := oda; first | exact h_ | (have e_ := (HN25.out); omega) | simpa using h_) (seg := [.slice Ao29 y188.length co29]) (j := 0) (show 1 ≤ 1 from by decide) (x' := y188) (Kd.M_row HO190.out) (fun _ hk => hk)
  (try simp only [show ((Kd.slice 3 (Kd.int .i64))).sz = 1 from rfl, Nat.mul_one, Nat.add_zero] at HP27)
  clear hcc27 hfr27
  have HN0_go25 := Aside0.mk (show g ≠ go25 from by have h_ := IsS58.own_ne HI0.out hraw27 (by decide); intro e_; exact h_ (by rw [e_]; rfl))
  have HNB168_go25 := Aside0.mk (show gb168 ≠ go25 from by have h_ := Kd.R_ne hraw27 BK168.out (by decide); intro e_; exact h_ (by rw [e_]; rfl))
  have HNB174_go25 := Aside0.mk (show gb174 ≠ go25 from by have h_ := Kd.R_ne hraw27 BK174.out (by decide); intro e_; exact h_ (by rw [e_]; rfl))
  have HS27 := HP27.1
  rw [← Ny191.out] at HS27
  have HQ27 := Aside0.mk HS27
  obtain ⟨_, hgg27⟩ := Kd.R_typed hraw27 go25 rfl
  have GG27_ := Aside0.mk hgg27
  clear HP27 HS27 hgg27
  refine hK.out _ _ ⟨(blk_cell BK174.out 0).trans rfl, HS1_⟩ (fun hHeld => ?_)
  clear hK K
  refine norm_ (a' := ?_) ?_ ?_
  rotate_left
  ·show Act.put _ (some 29) _ = _
   simp only [putS]
   rfl
  refine pure_ (i := 13) (N := some 30) (v := ?_) (a' := ?_) #[true, true, true, true, true, true, true, true, true, true, true, true, true, true, false] rfl rfl (any_of HT_.out (by kernel_rfl)) (fun _ _ _ h => h) (Or.inl ⟨by rfl, ?_⟩) ?_ ?_
  rotate_left
  ·intro w'
   go_simp
   with_reducible rfl
  rotate_left
  ·simp only [putS]
   rfl
  refine last_ (i := 14) (N := none) #[true, true, true, true, true, true, true, true, true, true, true, true, true, true, true] rfl rfl (one_of HT_.out (by kernel_rfl)) (by decide) (fun K hK => ?_)
  refine skip_ (w1 := ?_) (by rfl) rfl ?_ ?_
  rotate_left
  ·go_simp
   rfl
  refine hK.out _ _ ?_
  clear hK K
  refine done_ (done_of HT_.out (by kernel_rfl)) ?_
  have n0_ : Aside0 (Kd.R (Kd.int .i64) 3 (w26.setCell ⟨go25, (t175 : Int).toNat, none⟩ (.slice Ao29 y188.length co29)) w.heap.size (fun _ => True) (.slice Ao23 y182.length co23) y182) := ⟨by (with_reducible repeat (first | apply Kd.R_alloc | apply Kd.R_drewN | apply Kd.R_drew)); exact Kd.R_mono (Kd.R_far (p := ⟨go25, (t175 : Int).toNat, none⟩) (Kd.R_types HO184.out GG27_.out (by decide)) (fun _ hk => hk.2) (.slice Ao29 y188.length co29)) (fun _ hk => trivial)⟩
  have n1_ : Aside0 (Kd.S (Kd.slice 3 (Kd.int .i64)) 28 (w26.setCell ⟨go25, (t175 : Int).toNat, none⟩ (.slice Ao29 y188.length co29)) w.heap.size (fun k_ => some k_ ≠ (.slice Ao23 y182.length co23 : Value).ownBlock) (.slice (some ⟨go25, 0, none⟩) t169.length co14) y191) := ⟨sdl HQ27⟩
  have n2_ : Aside0 ((w26.setCell ⟨go25, (t175 : Int).toNat, none⟩ (.slice Ao29 y188.length co29)).heap[gb168]? = some (.cells #[.slice none 0 0] 26 (0, 0))) := ⟨by (with_reducible repeat (first | refine blk_drewN ?_ _ | refine blk_drew ?_ | refine blk_alloc ?_ _)); refine blk_far ?_ HNB168_go25.out _; (with_reducible repeat (first | refine blk_drewN ?_ _ | refine blk_drew ?_ | refine blk_alloc ?_ _)); exact BK168.out⟩
  have n3_ : Aside0 ((w26.setCell ⟨go25, (t175 : Int).toNat, none⟩ (.slice Ao29 y188.length co29)).heap[gb174]? = some (.cells #[.slice (some ⟨go25, 0, none⟩) t169.length co14] 26 (0, 0))) := ⟨by (with_reducible repeat (first | refine blk_drewN ?_ _ | refine blk_drew ?_ | refine blk_alloc ?_ _)); refine blk_far ?_ HNB174_go25.out _; (with_reducible repeat (first | refine blk_drewN ?_ _ | refine blk_drew ?_ | refine blk_alloc ?_ _)); exact BK174.out⟩
  have n4_ : Aside0 (IsS58 w0 (w26.setCell ⟨go25, (t175 : Int).toNat, none⟩ (.slice Ao29 y188.length co29)) g s0_0 t186 t187) := ⟨by repeat (first | (with_reducible first | exact HI0.out | apply IsS58.alloc | apply IsS58.drewN | apply IsS58.drew | apply IsS58.set_1 | apply IsS58.set_2 | refine IsS58.far ?_ HN0_go25.out _ | refine IsS58.far ?_ NB0_168.out _ | refine IsS58.far ?_ NB0_174.out _) | exact HI0.out)⟩
  have n5_ : Aside0 (KeepBut w (w26.setCell ⟨go25, (t175 : Int).toNat, none⟩ (.slice Ao29 y188.length co29)) g none) := ⟨by repeat (first | (with_reducible first | exact HK.out | apply KeepBut.set_ | apply keep_drewN | apply keep_drew | apply keep_alloc | refine keep_far ?_ GB25.out _ | refine keep_far ?_ GW168.out _ | refine keep_far ?_ GW174.out _) | exact HK.out)⟩
  have n6_ : Aside0 (Below w0.heap.size w0 (w26.setCell ⟨go25, (t175 : Int).toNat, none⟩ (.slice Ao29 y188.length co29))) := ⟨by repeat (first | (with_reducible first | exact HB.out | apply below_alloc | apply pw_below_drewN | apply below_drew1 | refine below_set ?_ (Nat.le_trans HL.out GB25.out) | refine below_set ?_ (IsS58.ge HI0.out) | refine below_set ?_ GE168.out | refine below_set ?_ GE174.out) | exact HB.out)⟩
  (try clear HO184)
  (try clear HO171)
  (try clear BK168)
  (try clear BK174)
  (try clear HI0)
  (try clear HK)
  (try clear HB)
  generalize (w26.setCell ⟨go25, (t175 : Int).toNat, none⟩ (.slice Ao29 y188.length co29)) = w30 at n0_ n1_ n2_ n3_ n4_ n5_ n6_ ⊢
  have HO184 := n0_
  have HO171 := n1_
  have BK168 := n2_
  have BK174 := n3_
  have HI0 := n4_
  have HK := n5_
  have HB := n6_
  clear n0_ n1_ n2_ n3_ n4_ n5_ n6_
  have hcz31_0 : w30.cell? ⟨gb174, 0, none⟩ = some (.slice (some ⟨go25, 0, none⟩) t169.length co14) := (blk_cell BK174.out 0).trans rfl
  have hfz31_0 := blk_frozen BK174.out 0
  have hnb32 := NB168_0.out
  have hnc32 := NB0_168.out
  have hcz33_0 : w30.cell? ⟨gb168, 0, none⟩ = some (.slice none 0 0) := (blk_cell BK168.out 0).trans rfl
  have hfz33_0 := blk_frozen BK168.out 0
  try go_wp2
  refine bodyPost_ret (results_cell_row rfl _ _ gb168 26 #[.slice (some ⟨go25, 0, none⟩) t169.length co14] (0, 0) _ rfl (by (with_reducible repeat (first | refine blk_drewN ?_ _ | refine blk_drew ?_ | refine blk_alloc ?_ _)); refine blk_put (cs := #[.slice none 0 0]) ?_ 0 _ rfl; (with_reducible repeat (first | refine blk_drewN ?_ _ | refine blk_drew ?_ | refine blk_alloc ?_ _)); exact BK168.out) Try.underlying26 rfl (by kernel_rfl)) rfl ?_
  exact ⟨_, by first | rfl | (simp [errW_none, errW_some] <;> rfl) | (simp [*, errW_none, errW_some] <;> rfl), by (with_reducible repeat (first | apply Kd.S_alloc | apply Kd.S_drewN | apply Kd.S_drew)); exact Kd.S_mono (Kd.S_far (p := ⟨gb168, 0, none⟩) (Kd.S_types HO171.out BK168.out (by decide)) (fun _ hk => hk.2) (.slice (some ⟨go25, 0, none⟩) t169.length co14)) (fun _ hk => trivial), by repeat (first | (with_reducible first | exact HI0.out | apply IsS58.alloc | apply IsS58.drewN | apply IsS58.drew | apply IsS58.set_1 | apply IsS58.set_2 | refine IsS58.far ?_ NB0_168.out _ | refine IsS58.far ?_ NB0_174.out _) | exact HI0.out), by repeat (first | (with_reducible first | exact HB.out | apply below_alloc | apply pw_below_drewN | apply below_drew1 | refine below_set ?_ (IsS58.ge HI0.out) | refine below_set ?_ GE168.out | refine below_set ?_ GE174.out) | exact HB.out), by repeat (first | (with_reducible first | exact HK.out | apply KeepBut.set_ | apply keep_drewN | apply keep_drew | apply keep_alloc | refine keep_far ?_ GW168.out _ | refine keep_far ?_ GW174.out _) | exact HK.out)⟩
 rw [if_neg c5] at H
 have c5b0 : (t178 == 0) = false := beq_eq_false_iff_ne.mpr c5
 have c5b1 : (t178 != 0) = true := bne_iff_ne.mpr c5
 by_cases c34 : t178 = 1
 ·rw [if_pos c34] at H
  have c34b0 : (t178 == 1) = true := beq_iff_eq.mpr c34
  have c34b1 : (t178 != 1) = false := bne_eq_false_iff_eq.mpr c34
  clear c34
  obtain ⟨y192, hy192⟩ : ∃ y_ : List Int, y_ = (([21, 22, 23, 24, 25] : List Int)) := ⟨_, rfl⟩
  replace H : (if 0 ≤ t175 then (if t175 < (t169.length : Int) then (some ((t169.set (t175 : Int).toNat y192), t179, t180)) else (none)) else (none)) = some (r1, r2, r3) := by first | (rw [hy192]; with_reducible exact H) | (have H2_ := (Option.bind_some _ _).symm.trans H; rw [hy192]; with_reducible exact H2_) | (have H2_ := (Option.bind_some _ _).symm.trans H; with_reducible exact H2_) | with_reducible exact H | (rw [hy192]; exact H) | exact H
  have Ny192 := Aside0.mk hy192
  clear hy192
  by_cases c35 : 0 ≤ t175
  rotate_left
  ·rw [if_neg c35] at H
   exact absurd H (by simp)
  rw [if_pos c35] at H
  have c35b0 : decide (0 ≤ t175) = true := decide_eq_true c35
  clear c35
  by_cases c36 : t175 < (t169.length : Int)
  rotate_left
  ·rw [if_neg c36] at H
   exact absurd H (by simp)
  rw [if_pos c36] at H
  have c36b0 : decide (t175 < (t169.length : Int)) = true := decide_eq_true c36
  clear c36
  obtain ⟨y195, hy195⟩ : ∃ y_ : List (List Int), y_ = (t169.set (t175 : Int).toNat y192) := ⟨_, rfl⟩
  replace H : (some (y195, t179, t180)) = some (r1, r2, r3) := by first | (rw [hy195]; with_reducible exact H) | (have H2_ := (Option.bind_some _ _).symm.trans H; rw [hy195]; with_reducible exact H2_) | (have H2_ := (Option.bind_some _ _).symm.trans H; with_reducible exact H2_) | with_reducible exact H | (rw [hy195]; exact H) | exact H
  have Ny195 := Aside0.mk hy195
  clear hy195
  simp only [Option.some.injEq, Prod.mk.injEq] at H
  obtain ⟨rfl, rfl, rfl⟩ := H
  go_enter Try.func35, Try.ntmps35
  go_wp2_with (first | ((with_reducible refine gate_dst (N := 2) rfl ?_); refine box_event ?hg (N := 2) ?hd (cs := #[.slice none 0 0]) (t := 26) ?hr ?_; (case hd => rfl); (case hg => rfl); (case hr => first | (go_simp; done) | (go_simp; rfl)); intro gb168 hg w38 hbox hb; have n0_ := Aside0.mk (IsS58.below (by repeat (first | (with_reducible first | exact HI0.out | apply IsS58.alloc | apply IsS58.drewN | apply IsS58.drew | apply IsS58.set_1 | apply IsS58.set_2) | exact HI0.out)) hb); have n1_ := Aside0.mk (KeepBut.trans (by repeat (first | (with_reducible first | exact HK.out | apply KeepBut.set_ | apply keep_drewN | apply keep_drew | apply keep_alloc) | exact HK.out)) (KeepBut.of_below hb g none) (.inl rfl)); have n2_ := Aside0.mk (below_step (by repeat (first | (with_reducible first | exact HB.out | apply below_alloc | apply pw_below_drewN | apply below_drew1 | refine below_set ?_ (IsS58.ge HI0.out)) | exact HB.out)) hb); have n3_ := Aside0.mk (hbox); have n4_ := Aside0.mk ((by rw [hg]; exact (keep_size (w := w) (g := g) (row := none) (by repeat (first | (with_reducible first | exact HK.out | apply KeepBut.set_ | apply keep_drewN | apply keep_drew | apply keep_alloc) | exact HK.out))) : w.heap.size ≤ gb168)); have n5_ := Aside0.mk ((Nat.le_trans HW0.out (by rw [hg]; exact (keep_size (w := w) (g := g) (row := none) (by repeat (first | (with_reducible first | exact HK.out | apply KeepBut.set_ | apply keep_drewN | apply keep_drew | apply keep_alloc) | exact HK.out))) : w.heap.size ≤ gb168) : w0.heap.size ≤ gb168)); have n6_ := Aside0.mk ((by rw [hg]; exact Nat.ne_of_lt (IsS58.lt (show IsS58 w0 _ g s0_0 s0_1 s0_2 from by repeat (first | (with_reducible first | exact HI0.out | apply IsS58.alloc | apply IsS58.drewN | apply IsS58.drew | apply IsS58.set_1 | apply IsS58.set_2) | exact HI0.out))) : g ≠ gb168)); have n7_ := Aside0.mk ((by rw [hg]; exact Nat.ne_of_gt (IsS58.lt (show IsS58 w0 _ g s0_0 s0_1 s0_2 from by repeat (first | (with_reducible first | exact HI0.out | apply IsS58.alloc | apply IsS58.drewN | apply IsS58.drew | apply IsS58.set_1 | apply IsS58.set_2) | exact HI0.out))) : gb168 ≠ g)); clear HI0; clear HK; clear HB; have HI0 := n0_; have HK := n1_; have HB := n2_; have BK168 := n3_; have GW168 := n4_; have GE168 := n5_; have NB0_168 := n6_; have NB168_0 := n7_; clear n0_ n1_ n2_ n3_ n4_ n5_ n6_ n7_; clear hb hbox hg) | ((with_reducible refine gate_callee (f := 60) rfl ?_); refine goesL_ (some 7) rfl rfl Try.func60 (by kernel_rfl) rfl #[.pointer (some ⟨g, 0, none⟩)] rfl gmp ?_; (with_reducible refine (spec_l1Cur_yard.calls k g s0_0 s0_1 s0_2 t169 t172 t173 w0 _ ?side1 ?side2 A2.out).mono ?_); (case side1 => repeat (first | (with_reducible first | exact HI0.out | apply IsS58.alloc | apply IsS58.drewN | apply IsS58.drew | apply IsS58.set_1 | apply IsS58.set_2 | refine IsS58.far ?_ NB0_168.out _) | exact HI0.out)); (case side2 => repeat (first | (with_reducible first | exact HB.out | apply below_alloc | apply pw_below_drewN | apply below_drew1 | refine below_set ?_ (IsS58.ge HI0.out) | refine below_set ?_ GE168.out) | exact HB.out)); rintro e w39 ⟨v170, rfl, ho0, hi, hb, hk⟩; refine ⟨_, rfl, ?_⟩; have n0_ := Aside0.mk (KeepBut.blk hk (g' := gb168) (o := .cells #[.slice none 0 0] 26 (0, 0)) (bkl BK168) NB168_0.out (by simp)); have n1_ := Aside0.mk (Kd.S_lower ho0 (keep_size (w := w) (g := g) (row := none) (by repeat (first | (with_reducible first | exact HK.out | apply KeepBut.set_ | apply keep_drewN | apply keep_drew | apply keep_alloc | refine keep_far ?_ GW168.out _) | exact HK.out)))); have n2_ := Aside0.mk (KeepBut.trans (by repeat (first | (with_reducible first | exact HK.out | apply KeepBut.set_ | apply keep_drewN | apply keep_drew | apply keep_alloc | refine keep_far ?_ GW168.out _) | exact HK.out)) hk (.inl rfl)); have n3_ := Aside0.mk (hb); have n4_ := Aside0.mk (hi); clear BK168; clear HK; clear HB; clear HI0; have BK168 := n0_; have HO171 := n1_; have HK := n2_; have HB := n3_; have HI0 := n4_; clear n0_ n1_ n2_ n3_ n4_; (try clear hb); (try clear hb2); (try clear hk); (try clear hi); (try clear ho0)) | ((with_reducible refine gate_dst (N := 3) rfl ?_); refine box_event ?hg (N := 3) ?hd (cs := #[.slice none 0 0]) (t := 26) ?hr ?_; (case hd => rfl); (case hg => rfl); (case hr => first | (go_simp; done) | (go_simp; rfl)); intro gb174 hg w40 hbox hb; have n0_ := Aside0.mk (Kd.S_below (sdl HO171) hb); have n1_ := Aside0.mk (IsS58.below (by repeat (first | (with_reducible first | exact HI0.out | apply IsS58.alloc | apply IsS58.drewN | apply IsS58.drew | apply IsS58.set_1 | apply IsS58.set_2 | refine IsS58.far ?_ NB0_168.out _) | exact HI0.out)) hb); have n2_ := Aside0.mk (blk_below (g := gb168) (o := .cells #[.slice none 0 0] 26 (0, 0)) (bkl BK168) hb); have n3_ := Aside0.mk (KeepBut.trans (by repeat (first | (with_reducible first | exact HK.out | apply KeepBut.set_ | apply keep_drewN | apply keep_drew | apply keep_alloc | refine keep_far ?_ GW168.out _) | exact HK.out)) (KeepBut.of_below hb g none) (.inl rfl)); have n4_ := Aside0.mk (below_step (by repeat (first | (with_reducible first | exact HB.out | apply below_alloc | apply pw_below_drewN | apply below_drew1 | refine below_set ?_ (IsS58.ge HI0.out) | refine below_set ?_ GE168.out) | exact HB.out)) hb); have n5_ := Aside0.mk (hbox); have n6_ := Aside0.mk ((by rw [hg]; exact (keep_size (w := w) (g := g) (row := none) (by repeat (first | (with_reducible first | exact HK.out | apply KeepBut.set_ | apply keep_drewN | apply keep_drew | apply keep_alloc | refine keep_far ?_ GW168.out _) | exact HK.out))) : w.heap.size ≤ gb174)); have n7_ := Aside0.mk ((Nat.le_trans HW0.out (by rw [hg]; exact (keep_size (w := w) (g := g) (row := none) (by repeat (first | (with_reducible first | exact HK.out | apply KeepBut.set_ | apply keep_drewN | apply keep_drew | apply keep_alloc | refine keep_far ?_ GW168.out _) | exact HK.out))) : w.heap.size ≤ gb174) : w0.heap.size ≤ gb174)); have n8_ := Aside0.mk ((by rw [hg]; exact Nat.ne_of_lt (blk_lt (g := gb168) (o := .cells #[.slice none 0 0] 26 (0, 0)) (bkl BK168)) : gb168 ≠ gb174)); have n9_ := Aside0.mk ((by rw [hg]; exact Nat.ne_of_gt (blk_lt (g := gb168) (o := .cells #[.slice none 0 0] 26 (0, 0)) (bkl BK168)) : gb174 ≠ gb168)); have n10_ := Aside0.mk ((by rw [hg]; exact Nat.ne_of_lt (IsS58.lt (show IsS58 w0 _ g s0_0 t172 t173 from by repeat (first | (with_reducible first | exact HI0.out | apply IsS58.alloc | apply IsS58.drewN | apply IsS58.drew | apply IsS58.set_1 | apply IsS58.set_2 | refine IsS58.far ?_ NB0_168.out _) | exact HI0.out))) : g ≠ gb174)); have n11_ := Aside0.mk ((by rw [hg]; exact Nat.ne_of_gt (IsS58.lt (show IsS58 w0 _ g s0_0 t172 t173 from by repeat (first | (with_reducible first | exact HI0.out | apply IsS58.alloc | apply IsS58.drewN | apply IsS58.drew | apply IsS58.set_1 | apply IsS58.set_2 | refine IsS58.far ?_ NB0_168.out _) | exact HI0.out))) : gb174 ≠ g)); clear HO171; clear HI0; clear BK168; clear HK; clear HB; have HO171 := n0_; have HI0 := n1_; have BK168 := n2_; have HK := n3_; have HB := n4_; have BK174 := n5_; have GW174 := n6_; have GE174 := n7_; have NB168_174 := n8_; have NB174_168 := n9_; have NB0_174 := n10_; have NB174_0 := n11_; clear n0_ n1_ n2_ n3_ n4_ n5_ n6_ n7_ n8_ n9_ n10_ n11_; clear hb hbox hg; obtain ⟨Ao41, co41, eo41⟩ := Kd.S_slice HO171.out; subst eo41; have hnb42 := NB174_168.out; have hnc42 := NB168_174.out; have hnb43 := NB174_0.out; have hnc43 := NB0_174.out; have hcz44_0 : w40.cell? ⟨gb174, 0, none⟩ = some (.slice none 0 0) := (blk_cell BK174.out 0).trans rfl; have hfz44_0 := blk_frozen BK174.out 0) | ((with_reducible refine gate_callee (f := 44) rfl ?_); refine goesL_ (some 12) rfl rfl Try.func44 (by kernel_rfl) rfl #[.pointer (some ⟨g, 0, none⟩), .int .i64 (t169.length : Int)] rfl gmp ?_; (with_reducible refine (spec_l1Cur_pick.calls g s0_0 t172 t173 (t169.length : Int) t175 t176 t177 w0 _ ?side1 ?side2 A3.out).mono ?_); (case side1 => repeat (first | (with_reducible first | exact HI0.out | apply IsS58.alloc | apply IsS58.drewN | apply IsS58.drew | apply IsS58.set_1 | apply IsS58.set_2 | refine IsS58.far ?_ NB0_168.out _ | refine IsS58.far ?_ NB0_174.out _) | exact HI0.out)); (case side2 => repeat (first | (with_reducible first | exact HB.out | apply below_alloc | apply pw_below_drewN | apply below_drew1 | refine below_set ?_ (IsS58.ge HI0.out) | refine below_set ?_ GE168.out | refine below_set ?_ GE174.out) | exact HB.out)); rintro e w45 ⟨rfl, hi, hb, hk⟩; refine ⟨_, rfl, ?_⟩; have n0_ := Aside0.mk (KeepBut.blk hk (g' := gb168) (o := .cells #[.slice none 0 0] 26 (0, 0)) (by (with_reducible repeat (first | refine blk_drewN ?_ _ | refine blk_drew ?_ | refine blk_alloc ?_ _)); refine blk_far ?_ NB168_174.out _; (with_reducible repeat (first | refine blk_drewN ?_ _ | refine blk_drew ?_ | refine blk_alloc ?_ _)); exact BK168.out) NB168_0.out (by simp)); have n1_ := Aside0.mk (Kd.S_mono (Kd.S_keep (IsS58.apartS (show IsS58 w0 _ g s0_0 t172 t173 from by repeat (first | (with_reducible first | exact HI0.out | apply IsS58.alloc | apply IsS58.drewN | apply IsS58.drew | apply IsS58.set_1 | apply IsS58.set_2 | refine IsS58.far ?_ NB0_168.out _ | refine IsS58.far ?_ NB0_174.out _) | exact HI0.out)) (by (with_reducible repeat (first | apply Kd.S_alloc | apply Kd.S_drewN | apply Kd.S_drew)); exact (Kd.S_mono (Kd.S_far (p := ⟨gb174, 0, none⟩) (Kd.S_types HO171.out BK174.out (by decide)) (fun _ hk => hk.2) (.slice Ao41 t169.length co41)) (fun _ h_ => h_.1))) (by decide)) hk (fun _ h => h.2)) (fun _ h => h.1)); have n2_ := Aside0.mk (KeepBut.blk hk (g' := gb174) (o := .cells #[.slice Ao41 t169.length co41] 26 (0, 0)) (by (with_reducible repeat (first | refine blk_drewN ?_ _ | refine blk_drew ?_ | refine blk_alloc ?_ _)); refine blk_put (cs := #[.slice none 0 0]) ?_ 0 _ rfl; (with_reducible repeat (first | refine blk_drewN ?_ _ | refine blk_drew ?_ | refine blk_alloc ?_ _)); exact BK174.out) NB174_0.out (by simp)); have n3_ := Aside0.mk (KeepBut.trans (by repeat (first | (with_reducible first | exact HK.out | apply KeepBut.set_ | apply keep_drewN | apply keep_drew | apply keep_alloc | refine keep_far ?_ GW168.out _ | refine keep_far ?_ GW174.out _) | exact HK.out)) hk (.inl rfl)); have n4_ := Aside0.mk (hb); have n5_ := Aside0.mk (hi); clear BK168; clear HO171; clear BK174; clear HK; clear HB; clear HI0; have BK168 := n0_; have HO171 := n1_; have BK174 := n2_; have HK := n3_; have HB := n4_; have HI0 := n5_; clear n0_ n1_ n2_ n3_ n4_ n5_; (try clear hb); (try clear hb2); (try clear hk); (try clear hi)) | ((with_reducible refine gate_callee (f := 44) rfl ?_); refine goesL_ (some 14) rfl rfl Try.func44 (by kernel_rfl) rfl #[.pointer (some ⟨g, 0, none⟩), .int .i64 24] rfl gmp ?_; (with_reducible refine (spec_l1Cur_pick.calls g s0_0 t176 t177 24 t178 t179 t180 w0 _ ?side1 ?side2 A4.out).mono ?_); (case side1 => repeat (first | (with_reducible first | exact HI0.out | apply IsS58.alloc | apply IsS58.drewN | apply IsS58.drew | apply IsS58.set_1 | apply IsS58.set_2 | refine IsS58.far ?_ NB0_168.out _ | refine IsS58.far ?_ NB0_174.out _) | exact HI0.out)); (case side2 => repeat (first | (with_reducible first | exact HB.out | apply below_alloc | apply pw_below_drewN | apply below_drew1 | refine below_set ?_ (IsS58.ge HI0.out) | refine below_set ?_ GE168.out | refine below_set ?_ GE174.out) | exact HB.out)); rintro e w46 ⟨rfl, hi, hb, hk⟩; refine ⟨_, rfl, ?_⟩; have n0_ := Aside0.mk (KeepBut.blk hk (g' := gb168) (o := .cells #[.slice none 0 0] 26 (0, 0)) (bkl BK168) NB168_0.out (by simp)); have n1_ := Aside0.mk (Kd.S_mono (Kd.S_keep (IsS58.apartS (show IsS58 w0 _ g s0_0 t176 t177 from by repeat (first | (with_reducible first | exact HI0.out | apply IsS58.alloc | apply IsS58.drewN | apply IsS58.drew | apply IsS58.set_1 | apply IsS58.set_2 | refine IsS58.far ?_ NB0_168.out _ | refine IsS58.far ?_ NB0_174.out _) | exact HI0.out)) (sdl HO171) (by decide)) hk (fun _ h => h.2)) (fun _ h => h.1)); have n2_ := Aside0.mk (KeepBut.blk hk (g' := gb174) (o := .cells #[.slice Ao41 t169.length co41] 26 (0, 0)) (bkl BK174) NB174_0.out (by simp)); have n3_ := Aside0.mk (KeepBut.trans (by repeat (first | (with_reducible first | exact HK.out | apply KeepBut.set_ | apply keep_drewN | apply keep_drew | apply keep_alloc | refine keep_far ?_ GW168.out _ | refine keep_far ?_ GW174.out _) | exact HK.out)) hk (.inl rfl)); have n4_ := Aside0.mk (hb); have n5_ := Aside0.mk (hi); clear BK168; clear HO171; clear BK174; clear HK; clear HB; clear HI0; have BK168 := n0_; have HO171 := n1_; have BK174 := n2_; have HK := n3_; have HB := n4_; have HI0 := n5_; clear n0_ n1_ n2_ n3_ n4_ n5_; (try clear hb); (try clear hb2); (try clear hk); (try clear hi); have hcz47_0 : w46.cell? ⟨gb174, 0, none⟩ = some (.slice Ao41 t169.length co41) := (blk_cell BK174.out 0).trans rfl; have hfz47_0 := blk_frozen BK174.out 0) | ((with_reducible refine gate_dst (N := 36) rfl ?_); refine Kd.R_lit (Kd.int .i64) _ 3 ?hg (N := 36) ?hd (xs := ([21, 22, 23, 24, 25] : List Int)) (inner := [.int .i64 21, .int .i64 22, .int .i64 23, .int .i64 24, .int .i64 25]) (ok := fun _ => True) (okp := fun _ => True) ?hr ?hp (fun _ hk => hk) trivial (Below.refl _ _) (Nat.le_refl _) (by simp) ?_; (case hd => rfl); (case hg => rfl); (case hr => first | (go_simp; done) | (go_simp; rfl)); (case hp => exact (Reps.one (show Kd.M (Kd.int .i64) _ _ _ 21 [.int .i64 21] from rfl) (Reps.one (show Kd.M (Kd.int .i64) _ _ _ 22 [.int .i64 22] from rfl) (Reps.one (show Kd.M (Kd.int .i64) _ _ _ 23 [.int .i64 23] from rfl) (Reps.one (show Kd.M (Kd.int .i64) _ _ _ 24 [.int .i64 24] from rfl) (Reps.one (show Kd.M (Kd.int .i64) _ _ _ 25 [.int .i64 25] from rfl) (Reps.none _ _))))))); intro v193 w48 ho49 hb hg_ hnew_; clear hg_ hnew_; (first | rw [← Ny192.out] at ho49 | (simp only [Int.reduceToNat] at ho49; rw [← Ny192.out] at ho49)); have n0_ := Aside0.mk (Kd.S_elder' (sdl HO171) (Kd.R_base ho49) hb); have n1_ := Aside0.mk (Kd.R_lower ho49 (keep_size (w := w) (g := g) (row := none) (by repeat (first | (with_reducible first | exact HK.out | apply KeepBut.set_ | apply keep_drewN | apply keep_drew | apply keep_alloc | refine keep_far ?_ GW168.out _ | refine keep_far ?_ GW174.out _) | exact HK.out)))); have n2_ := Aside0.mk (IsS58.below (by repeat (first | (with_reducible first | exact HI0.out | apply IsS58.alloc | apply IsS58.drewN | apply IsS58.drew | apply IsS58.set_1 | apply IsS58.set_2 | refine IsS58.far ?_ NB0_168.out _ | refine IsS58.far ?_ NB0_174.out _) | exact HI0.out)) hb); have n3_ := Aside0.mk (blk_below (g := gb168) (o := .cells #[.slice none 0 0] 26 (0, 0)) (bkl BK168) hb); have n4_ := Aside0.mk (blk_below (g := gb174) (o := .cells #[.slice Ao41 t169.length co41] 26 (0, 0)) (bkl BK174) hb); have n5_ := Aside0.mk (KeepBut.trans (by repeat (first | (with_reducible first | exact HK.out | apply KeepBut.set_ | apply keep_drewN | apply keep_drew | apply keep_alloc | refine keep_far ?_ GW168.out _ | refine keep_far ?_ GW174.out _) | exact HK.out)) (KeepBut.of_below hb g none) (.inl rfl)); have n6_ := Aside0.mk (below_step (by repeat (first | (with_reducible first | exact HB.out | apply below_alloc | apply pw_below_drewN | apply below_drew1 | refine below_set ?_ (IsS58.ge HI0.out) | refine below_set ?_ GE168.out | refine below_set ?_ GE174.out) | exact HB.out)) hb); clear HO171; clear HI0; clear BK168; clear BK174; clear HK; clear HB; have HO171 := n0_; have HO194 := n1_; have HI0 := n2_; have BK168 := n3_; have BK174 := n4_; have HK := n5_; have HB := n6_; clear n0_ n1_ n2_ n3_ n4_ n5_ n6_; clear hb ho49; have p37 : 0 ≤ (t175 : Int) := oda; have q37 : (t175 : Int) < ((t169.length : Int) : Int) := oda; obtain ⟨go37, co37, eo37, gb37, gl37, cl37, HG37⟩ := Kd.S_form HO171.out (by omega); (first | cases eo37 | (injection eo37 with ea_ en_ ec_; (first | subst ea_ | (injection ea_ with ea_; subst ea_)); subst ec_; clear en_)); have GB37 := Aside0.mk gb37; have GG37 := Aside0.mk HG37; clear gb37 gl37 HG37; obtain ⟨_, ce37, hcl37, hM37, hcc37, hfr37, _, _⟩ := Kd.S_elem HO171.out [] (t175 : Int) p37 q37; obtain ⟨ve37_0, rfl, ge37_0⟩ := hM37; have hx37_0 := hcc37 0 _ rfl; have hf37_0 := hfr37 0; (try simp only [show ((Kd.slice 3 (Kd.int .i64))).sz = 1 from rfl, Nat.mul_one, Nat.add_zero] at hx37_0); (try simp only [show ((Kd.slice 3 (Kd.int .i64))).sz = 1 from rfl, Nat.mul_one, Nat.add_zero] at hf37_0); clear hcl37 hcc37 hfr37; (try clear hM37); replace p37 := eq_true p37; replace q37 := eq_true q37; have n_ := Aside0.mk (Kd.S_mono (ok' := (fun k_ => some k_ ≠ (v193 : Value).ownBlock)) HO171.out (fun k_ hk => hk.2)); clear HO171; have HO171 := n_; clear n_; have HX50 := Aside0.mk (show Kd.S (Kd.slice 3 (Kd.int .i64)) 28 w48 w.heap.size (fun k_ => ((fun _ => True)) k_ ∧ ¬ ((fun k_ => some k_ = (v193 : Value).ownBlock)) k_) (.slice (some ⟨go37, 0, none⟩) t169.length co41) t169 from (by (with_reducible repeat (first | apply Kd.S_alloc | apply Kd.S_drewN | apply Kd.S_drew)); exact Kd.S_mono HO171.out (fun k_ hk => ⟨trivial, fun e_ => hk e_⟩))); obtain ⟨oki50, ce50, hcl50, hM50, hcc50, hfr50, hoki50, hH50⟩ := Kd.S_elem HX50.out [] (t175 : Int) (oda) (by have h_ : (t175 : Int) < ((t169.length : Int) : Int) := oda; first | exact h_ | (have e_ := (Kd.S_reads' HO171.out).1; omega) | simpa using h_); obtain ⟨ve50_0, rfl, ge50_0⟩ := hM50; have HP50 := Kd.S_seg hH50 (oda) (by have h_ : (t175 : Int) < ((t169.length : Int) : Int) := oda; first | exact h_ | (have e_ := (Kd.S_reads' HO171.out).1; omega) | simpa using h_) (seg := [v193]) (j := 0) (show 1 ≤ 1 from by decide) (x' := y192) (Kd.M_row (Kd.R_mono (Kd.R_tight rfl (Kd.R_mono (ok' := fun k_ => ((fun _ => True)) k_ ∧ k_ ≠ go37) (Kd.R_apart' (HO194.out) (Kd.S_typed HO171.out) (by decide)) (fun k_ hk => ⟨trivial, fun e_ => (hk.2) (by rw [e_]; rfl)⟩))) (fun _ h_ => Or.inr (h_)))) (fun _ hk => hk) (fun k_ hk_ => ((Kd.R_mono (ok' := fun k_ => ((fun _ => True)) k_ ∧ k_ ≠ go37) (Kd.R_apart' (HO194.out) (Kd.S_typed HO171.out) (by decide)) (fun k_ hk => ⟨trivial, fun e_ => (hk.2) (by rw [e_]; rfl)⟩))).1 k_ hk_.symm); have hx50_0 := hcc50 0 _ rfl; (try simp only [show ((Kd.slice 3 (Kd.int .i64))).sz = 1 from rfl, Nat.mul_one, Nat.add_zero] at hx50_0); have hf50_0 := hfr50 0; (try simp only [show ((Kd.slice 3 (Kd.int .i64))).sz = 1 from rfl, Nat.mul_one, Nat.add_zero] at hf50_0); clear hcl50 hcc50 hfr50 hoki50 hH50; (try clear hM50); (try simp only [show ((Kd.slice 3 (Kd.int .i64))).sz = 1 from rfl, Nat.mul_one, Nat.add_zero] at HP50)) | ((with_reducible refine gate_store (t := 28) (p := 37) rfl ?_); refine store_event (t := 28) (p := 37) (v := ?vo_w51) (w1 := (w48.setCell ⟨go37, (t175 : Int).toNat, none⟩ (v193))) ?hg ?ho ?hn ?hr ?_; (case ho => rfl); (case hg => rfl); (case hn => rfl); (case hr => first | (go_simp; done) | (go_simp; rfl) | (obtain ⟨As_, cs_, es_⟩ := Kd.R_slice HO194.out; rw [es_]; first | (go_simp; done) | (go_simp; rfl))); intro w51 hw; have hg : w48.grownBy w51 (some go37) := (by rw [hw]; exact HP50.2); have hp_ : Kd.S (Kd.slice 3 (Kd.int .i64)) 28 w51 w.heap.size (fun _ => True) (.slice (some ⟨go37, 0, none⟩) t169.length co41) y195 := (by rw [hw, Ny195.out]; exact HP50.1); clear HP50; have n0_ := Aside0.mk (IsS58.grown (by repeat (first | (with_reducible first | exact HI0.out | apply IsS58.alloc | apply IsS58.drewN | apply IsS58.drew | apply IsS58.set_1 | apply IsS58.set_2 | refine IsS58.far ?_ NB0_168.out _ | refine IsS58.far ?_ NB0_174.out _) | exact HI0.out)) hg (IsS58.own_neS HI0.out HO171.out (by decide))); have n1_ := Aside0.mk (blk_grown (g := gb168) (o := .cells #[.slice none 0 0] 26 (0, 0)) (bkl BK168) hg (Kd.S_ne HO171.out BK168.out (by decide))); have n2_ := Aside0.mk (hp_); have n3_ := Aside0.mk (blk_grown (g := gb174) (o := .cells #[.slice (some ⟨go37, 0, none⟩) t169.length co41] 26 (0, 0)) (bkl BK174) hg (Kd.S_ne HO171.out BK174.out (by decide))); have n4_ := Aside0.mk ((by rw [hw]; exact below_set (HB.out) (Nat.le_trans HL.out GB37.out) : Below w0.heap.size w0 w51)); have n5_ := Aside0.mk (KeepBut.trans (by repeat (first | (with_reducible first | exact HK.out | apply KeepBut.set_ | apply keep_drewN | apply keep_drew | apply keep_alloc | refine keep_far ?_ GW168.out _ | refine keep_far ?_ GW174.out _) | exact HK.out)) (KeepBut.of_grown hg g) (Kd.S_base2 HO171.out)); clear HI0; clear BK168; clear HO171; clear BK174; clear HB; clear HK; clear HO194; have HI0 := n0_; have BK168 := n1_; have HO171 := n2_; have BK174 := n3_; have HB := n4_; have HK := n5_; clear n0_ n1_ n2_ n3_ n4_ n5_; clear hg hw hp_; have hcz52_0 : w51.cell? ⟨gb174, 0, none⟩ = some (.slice (some ⟨go37, 0, none⟩) t169.length co41) := (blk_cell BK174.out 0).trans rfl; have hfz52_0 := blk_frozen BK174.out 0; have hnb53 := NB168_0.out; have hnc53 := NB0_168.out; have hcz54_0 : w51.cell? ⟨gb168, 0, none⟩ = some (.slice none 0 0) := (blk_cell BK168.out 0).trans rfl; have hfz54_0 := blk_frozen BK168.out 0))
  refine bodyPost_ret (results_cell_row rfl _ _ gb168 26 #[.slice (some ⟨go37, 0, none⟩) t169.length co41] (0, 0) _ rfl (by (with_reducible repeat (first | refine blk_drewN ?_ _ | refine blk_drew ?_ | refine blk_alloc ?_ _)); refine blk_put (cs := #[.slice none 0 0]) ?_ 0 _ rfl; (with_reducible repeat (first | refine blk_drewN ?_ _ | refine blk_drew ?_ | refine blk_alloc ?_ _)); exact BK168.out) Try.underlying26 rfl (by kernel_rfl)) rfl ?_
  exact ⟨_, by first | rfl | (simp [errW_none, errW_some] <;> rfl) | (simp [*, errW_none, errW_some] <;> rfl), by (with_reducible repeat (first | apply Kd.S_alloc | apply Kd.S_drewN | apply Kd.S_drew)); exact Kd.S_mono (Kd.S_far (p := ⟨gb168, 0, none⟩) (Kd.S_types HO171.out BK168.out (by decide)) (fun _ hk => hk.2) (.slice (some ⟨go37, 0, none⟩) t169.length co41)) (fun _ hk => trivial), by repeat (first | (with_reducible first | exact HI0.out | apply IsS58.alloc | apply IsS58.drewN | apply IsS58.drew | apply IsS58.set_1 | apply IsS58.set_2 | refine IsS58.far ?_ NB0_168.out _ | refine IsS58.far ?_ NB0_174.out _) | exact HI0.out), by repeat (first | (with_reducible first | exact HB.out | apply below_alloc | apply pw_below_drewN | apply below_drew1 | refine below_set ?_ (IsS58.ge HI0.out) | refine below_set ?_ GE168.out | refine below_set ?_ GE174.out) | exact HB.out), by repeat (first | (with_reducible first | exact HK.out | apply KeepBut.set_ | apply keep_drewN | apply keep_drew | apply keep_alloc | refine keep_far ?_ GW168.out _ | refine keep_far ?_ GW174.out _) | exact HK.out)⟩
 rw [if_neg c34] at H
 have c34b0 : (t178 == 1) = false := beq_eq_false_iff_ne.mpr c34
 have c34b1 : (t178 != 1) = true := bne_iff_ne.mpr c34
 by_cases c55 : t178 = 2
 ·rw [if_pos c55] at H
  have c55b0 : (t178 == 2) = true := beq_iff_eq.mpr c55
  have c55b1 : (t178 != 2) = false := bne_eq_false_iff_eq.mpr c55
  clear c55
  obtain ⟨y196, hy196⟩ : ∃ y_ : List (List Int), y_ = (([] : List (List Int))) := ⟨_, rfl⟩
  replace H : (some (y196, t179, t180)) = some (r1, r2, r3) := by first | (rw [hy196]; with_reducible exact H) | (have H2_ := (Option.bind_some _ _).symm.trans H; rw [hy196]; with_reducible exact H2_) | (have H2_ := (Option.bind_some _ _).symm.trans H; with_reducible exact H2_) | with_reducible exact H | (rw [hy196]; exact H) | exact H
  have Ny196 := Aside0.mk hy196
  clear hy196
  simp only [Option.some.injEq, Prod.mk.injEq] at H
  obtain ⟨rfl, rfl, rfl⟩ := H
  go_enter Try.func35, Try.ntmps35
  go_wp2_with (first | ((with_reducible refine gate_dst (N := 2) rfl ?_); refine box_event ?hg (N := 2) ?hd (cs := #[.slice none 0 0]) (t := 26) ?hr ?_; (case hd => rfl); (case hg => rfl); (case hr => first | (go_simp; done) | (go_simp; rfl)); intro gb168 hg w56 hbox hb; have n0_ := Aside0.mk (IsS58.below (by repeat (first | (with_reducible first | exact HI0.out | apply IsS58.alloc | apply IsS58.drewN | apply IsS58.drew | apply IsS58.set_1 | apply IsS58.set_2) | exact HI0.out)) hb); have n1_ := Aside0.mk (KeepBut.trans (by repeat (first | (with_reducible first | exact HK.out | apply KeepBut.set_ | apply keep_drewN | apply keep_drew | apply keep_alloc) | exact HK.out)) (KeepBut.of_below hb g none) (.inl rfl)); have n2_ := Aside0.mk (below_step (by repeat (first | (with_reducible first | exact HB.out | apply below_alloc | apply pw_below_drewN | apply below_drew1 | refine below_set ?_ (IsS58.ge HI0.out)) | exact HB.out)) hb); have n3_ := Aside0.mk (hbox); have n4_ := Aside0.mk ((by rw [hg]; exact (keep_size (w := w) (g := g) (row := none) (by repeat (first | (with_reducible first | exact HK.out | apply KeepBut.set_ | apply keep_drewN | apply keep_drew | apply keep_alloc) | exact HK.out))) : w.heap.size ≤ gb168)); have n5_ := Aside0.mk ((Nat.le_trans HW0.out (by rw [hg]; exact (keep_size (w := w) (g := g) (row := none) (by repeat (first | (with_reducible first | exact HK.out | apply KeepBut.set_ | apply keep_drewN | apply keep_drew | apply keep_alloc) | exact HK.out))) : w.heap.size ≤ gb168) : w0.heap.size ≤ gb168)); have n6_ := Aside0.mk ((by rw [hg]; exact Nat.ne_of_lt (IsS58.lt (show IsS58 w0 _ g s0_0 s0_1 s0_2 from by repeat (first | (with_reducible first | exact HI0.out | apply IsS58.alloc | apply IsS58.drewN | apply IsS58.drew | apply IsS58.set_1 | apply IsS58.set_2) | exact HI0.out))) : g ≠ gb168)); have n7_ := Aside0.mk ((by rw [hg]; exact Nat.ne_of_gt (IsS58.lt (show IsS58 w0 _ g s0_0 s0_1 s0_2 from by repeat (first | (with_reducible first | exact HI0.out | apply IsS58.alloc | apply IsS58.drewN | apply IsS58.drew | apply IsS58.set_1 | apply IsS58.set_2) | exact HI0.out))) : gb168 ≠ g)); clear HI0; clear HK; clear HB; have HI0 := n0_; have HK := n1_; have HB := n2_; have BK168 := n3_; have GW168 := n4_; have GE168 := n5_; have NB0_168 := n6_; have NB168_0 := n7_; clear n0_ n1_ n2_ n3_ n4_ n5_ n6_ n7_; clear hb hbox hg) | ((with_reducible refine gate_callee (f := 60) rfl ?_); refine goesL_ (some 7) rfl rfl Try.func60 (by kernel_rfl) rfl #[.pointer (some ⟨g, 0, none⟩)] rfl gmp ?_; (with_reducible refine (spec_l1Cur_yard.calls k g s0_0 s0_1 s0_2 t169 t172 t173 w0 _ ?side1 ?side2 A2.out).mono ?_); (case side1 => repeat (first | (with_reducible first | exact HI0.out | apply IsS58.alloc | apply IsS58.drewN | apply IsS58.drew | apply IsS58.set_1 | apply IsS58.set_2 | refine IsS58.far ?_ NB0_168.out _) | exact HI0.out)); (case side2 => repeat (first | (with_reducible first | exact HB.out | apply below_alloc | apply pw_below_drewN | apply below_drew1 | refine below_set ?_ (IsS58.ge HI0.out) | refine below_set ?_ GE168.out) | exact HB.out)); rintro e w57 ⟨v170, rfl, ho0, hi, hb, hk⟩; refine ⟨_, rfl, ?_⟩; have n0_ := Aside0.mk (KeepBut.blk hk (g' := gb168) (o := .cells #[.slice none 0 0] 26 (0, 0)) (bkl BK168) NB168_0.out (by simp)); have n1_ := Aside0.mk (Kd.S_lower ho0 (keep_size (w := w) (g := g) (row := none) (by repeat (first | (with_reducible first | exact HK.out | apply KeepBut.set_ | apply keep_drewN | apply keep_drew | apply keep_alloc | refine keep_far ?_ GW168.out _) | exact HK.out)))); have n2_ := Aside0.mk (KeepBut.trans (by repeat (first | (with_reducible first | exact HK.out | apply KeepBut.set_ | apply keep_drewN | apply keep_drew | apply keep_alloc | refine keep_far ?_ GW168.out _) | exact HK.out)) hk (.inl rfl)); have n3_ := Aside0.mk (hb); have n4_ := Aside0.mk (hi); clear BK168; clear HK; clear HB; clear HI0; have BK168 := n0_; have HO171 := n1_; have HK := n2_; have HB := n3_; have HI0 := n4_; clear n0_ n1_ n2_ n3_ n4_; (try clear hb); (try clear hb2); (try clear hk); (try clear hi); (try clear ho0)) | ((with_reducible refine gate_dst (N := 3) rfl ?_); refine box_event ?hg (N := 3) ?hd (cs := #[.slice none 0 0]) (t := 26) ?hr ?_; (case hd => rfl); (case hg => rfl); (case hr => first | (go_simp; done) | (go_simp; rfl)); intro gb174 hg w58 hbox hb; have n0_ := Aside0.mk (Kd.S_below (sdl HO171) hb); have n1_ := Aside0.mk (IsS58.below (by repeat (first | (with_reducible first | exact HI0.out | apply IsS58.alloc | apply IsS58.drewN | apply IsS58.drew | apply IsS58.set_1 | apply IsS58.set_2 | refine IsS58.far ?_ NB0_168.out _) | exact HI0.out)) hb); have n2_ := Aside0.mk (blk_below (g := gb168) (o := .cells #[.slice none 0 0] 26 (0, 0)) (bkl BK168) hb); have n3_ := Aside0.mk (KeepBut.trans (by repeat (first | (with_reducible first | exact HK.out | apply KeepBut.set_ | apply keep_drewN | apply keep_drew | apply keep_alloc | refine keep_far ?_ GW168.out _) | exact HK.out)) (KeepBut.of_below hb g none) (.inl rfl)); have n4_ := Aside0.mk (below_step (by repeat (first | (with_reducible first | exact HB.out | apply below_alloc | apply pw_below_drewN | apply below_drew1 | refine below_set ?_ (IsS58.ge HI0.out) | refine below_set ?_ GE168.out) | exact HB.out)) hb); have n5_ := Aside0.mk (hbox); have n6_ := Aside0.mk ((by rw [hg]; exact (keep_size (w := w) (g := g) (row := none) (by repeat (first | (with_reducible first | exact HK.out | apply KeepBut.set_ | apply keep_drewN | apply keep_drew | apply keep_alloc | refine keep_far ?_ GW168.out _) | exact HK.out))) : w.heap.size ≤ gb174)); have n7_ := Aside0.mk ((Nat.le_trans HW0.out (by rw [hg]; exact (keep_size (w := w) (g := g) (row := none) (by repeat (first | (with_reducible first | exact HK.out | apply KeepBut.set_ | apply keep_drewN | apply keep_drew | apply keep_alloc | refine keep_far ?_ GW168.out _) | exact HK.out))) : w.heap.size ≤ gb174) : w0.heap.size ≤ gb174)); have n8_ := Aside0.mk ((by rw [hg]; exact Nat.ne_of_lt (blk_lt (g := gb168) (o := .cells #[.slice none 0 0] 26 (0, 0)) (bkl BK168)) : gb168 ≠ gb174)); have n9_ := Aside0.mk ((by rw [hg]; exact Nat.ne_of_gt (blk_lt (g := gb168) (o := .cells #[.slice none 0 0] 26 (0, 0)) (bkl BK168)) : gb174 ≠ gb168)); have n10_ := Aside0.mk ((by rw [hg]; exact Nat.ne_of_lt (IsS58.lt (show IsS58 w0 _ g s0_0 t172 t173 from by repeat (first | (with_reducible first | exact HI0.out | apply IsS58.alloc | apply IsS58.drewN | apply IsS58.drew | apply IsS58.set_1 | apply IsS58.set_2 | refine IsS58.far ?_ NB0_168.out _) | exact HI0.out))) : g ≠ gb174)); have n11_ := Aside0.mk ((by rw [hg]; exact Nat.ne_of_gt (IsS58.lt (show IsS58 w0 _ g s0_0 t172 t173 from by repeat (first | (with_reducible first | exact HI0.out | apply IsS58.alloc | apply IsS58.drewN | apply IsS58.drew | apply IsS58.set_1 | apply IsS58.set_2 | refine IsS58.far ?_ NB0_168.out _) | exact HI0.out))) : gb174 ≠ g)); clear HO171; clear HI0; clear BK168; clear HK; clear HB; have HO171 := n0_; have HI0 := n1_; have BK168 := n2_; have HK := n3_; have HB := n4_; have BK174 := n5_; have GW174 := n6_; have GE174 := n7_; have NB168_174 := n8_; have NB174_168 := n9_; have NB0_174 := n10_; have NB174_0 := n11_; clear n0_ n1_ n2_ n3_ n4_ n5_ n6_ n7_ n8_ n9_ n10_ n11_; clear hb hbox hg; obtain ⟨Ao59, co59, eo59⟩ := Kd.S_slice HO171.out; subst eo59; have hnb60 := NB174_168.out; have hnc60 := NB168_174.out; have hnb61 := NB174_0.out; have hnc61 := NB0_174.out; have hcz62_0 : w58.cell? ⟨gb174, 0, none⟩ = some (.slice none 0 0) := (blk_cell BK174.out 0).trans rfl; have hfz62_0 := blk_frozen BK174.out 0) | ((with_reducible refine gate_callee (f := 44) rfl ?_); refine goesL_ (some 12) rfl rfl Try.func44 (by kernel_rfl) rfl #[.pointer (some ⟨g, 0, none⟩), .int .i64 (t169.length : Int)] rfl gmp ?_; (with_reducible refine (spec_l1Cur_pick.calls g s0_0 t172 t173 (t169.length : Int) t175 t176 t177 w0 _ ?side1 ?side2 A3.out).mono ?_); (case side1 => repeat (first | (with_reducible first | exact HI0.out | apply IsS58.alloc | apply IsS58.drewN | apply IsS58.drew | apply IsS58.set_1 | apply IsS58.set_2 | refine IsS58.far ?_ NB0_168.out _ | refine IsS58.far ?_ NB0_174.out _) | exact HI0.out)); (case side2 => repeat (first | (with_reducible first | exact HB.out | apply below_alloc | apply pw_below_drewN | apply below_drew1 | refine below_set ?_ (IsS58.ge HI0.out) | refine below_set ?_ GE168.out | refine below_set ?_ GE174.out) | exact HB.out)); rintro e w63 ⟨rfl, hi, hb, hk⟩; refine ⟨_, rfl, ?_⟩; have n0_ := Aside0.mk (KeepBut.blk hk (g' := gb168) (o := .cells #[.slice none 0 0] 26 (0, 0)) (by (with_reducible repeat (first | refine blk_drewN ?_ _ | refine blk_drew ?_ | refine blk_alloc ?_ _)); refine blk_far ?_ NB168_174.out _; (with_reducible repeat (first | refine blk_drewN ?_ _ | refine blk_drew ?_ | refine blk_alloc ?_ _)); exact BK168.out) NB168_0.out (by simp)); have n1_ := Aside0.mk (Kd.S_mono (Kd.S_keep (IsS58.apartS (show IsS58 w0 _ g s0_0 t172 t173 from by repeat (first | (with_reducible first | exact HI0.out | apply IsS58.alloc | apply IsS58.drewN | apply IsS58.drew | apply IsS58.set_1 | apply IsS58.set_2 | refine IsS58.far ?_ NB0_168.out _ | refine IsS58.far ?_ NB0_174.out _) | exact HI0.out)) (by (with_reducible repeat (first | apply Kd.S_alloc | apply Kd.S_drewN | apply Kd.S_drew)); exact (Kd.S_mono (Kd.S_far (p := ⟨gb174, 0, none⟩) (Kd.S_types HO171.out BK174.out (by decide)) (fun _ hk => hk.2) (.slice Ao59 t169.length co59)) (fun _ h_ => h_.1))) (by decide)) hk (fun _ h => h.2)) (fun _ h => h.1)); have n2_ := Aside0.mk (KeepBut.blk hk (g' := gb174) (o := .cells #[.slice Ao59 t169.length co59] 26 (0, 0)) (by (with_reducible repeat (first | refine blk_drewN ?_ _ | refine blk_drew ?_ | refine blk_alloc ?_ _)); refine blk_put (cs := #[.slice none 0 0]) ?_ 0 _ rfl; (with_reducible repeat (first | refine blk_drewN ?_ _ | refine blk_drew ?_ | refine blk_alloc ?_ _)); exact BK174.out) NB174_0.out (by simp)); have n3_ := Aside0.mk (KeepBut.trans (by repeat (first | (with_reducible first | exact HK.out | apply KeepBut.set_ | apply keep_drewN | apply keep_drew | apply keep_alloc | refine keep_far ?_ GW168.out _ | refine keep_far ?_ GW174.out _) | exact HK.out)) hk (.inl rfl)); have n4_ := Aside0.mk (hb); have n5_ := Aside0.mk (hi); clear BK168; clear HO171; clear BK174; clear HK; clear HB; clear HI0; have BK168 := n0_; have HO171 := n1_; have BK174 := n2_; have HK := n3_; have HB := n4_; have HI0 := n5_; clear n0_ n1_ n2_ n3_ n4_ n5_; (try clear hb); (try clear hb2); (try clear hk); (try clear hi)) | ((with_reducible refine gate_callee (f := 44) rfl ?_); refine goesL_ (some 14) rfl rfl Try.func44 (by kernel_rfl) rfl #[.pointer (some ⟨g, 0, none⟩), .int .i64 24] rfl gmp ?_; (with_reducible refine (spec_l1Cur_pick.calls g s0_0 t176 t177 24 t178 t179 t180 w0 _ ?side1 ?side2 A4.out).mono ?_); (case side1 => repeat (first | (with_reducible first | exact HI0.out | apply IsS58.alloc | apply IsS58.drewN | apply IsS58.drew | apply IsS58.set_1 | apply IsS58.set_2 | refine IsS58.far ?_ NB0_168.out _ | refine IsS58.far ?_ NB0_174.out _) | exact HI0.out)); (case side2 => repeat (first | (with_reducible first | exact HB.out | apply below_alloc | apply pw_below_drewN | apply below_drew1 | refine below_set ?_ (IsS58.ge HI0.out) | refine below_set ?_ GE168.out | refine below_set ?_ GE174.out) | exact HB.out)); rintro e w64 ⟨rfl, hi, hb, hk⟩; refine ⟨_, rfl, ?_⟩; have n0_ := Aside0.mk (KeepBut.blk hk (g' := gb168) (o := .cells #[.slice none 0 0] 26 (0, 0)) (bkl BK168) NB168_0.out (by simp)); have n1_ := Aside0.mk (Kd.S_mono (Kd.S_keep (IsS58.apartS (show IsS58 w0 _ g s0_0 t176 t177 from by repeat (first | (with_reducible first | exact HI0.out | apply IsS58.alloc | apply IsS58.drewN | apply IsS58.drew | apply IsS58.set_1 | apply IsS58.set_2 | refine IsS58.far ?_ NB0_168.out _ | refine IsS58.far ?_ NB0_174.out _) | exact HI0.out)) (sdl HO171) (by decide)) hk (fun _ h => h.2)) (fun _ h => h.1)); have n2_ := Aside0.mk (KeepBut.blk hk (g' := gb174) (o := .cells #[.slice Ao59 t169.length co59] 26 (0, 0)) (bkl BK174) NB174_0.out (by simp)); have n3_ := Aside0.mk (KeepBut.trans (by repeat (first | (with_reducible first | exact HK.out | apply KeepBut.set_ | apply keep_drewN | apply keep_drew | apply keep_alloc | refine keep_far ?_ GW168.out _ | refine keep_far ?_ GW174.out _) | exact HK.out)) hk (.inl rfl)); have n4_ := Aside0.mk (hb); have n5_ := Aside0.mk (hi); clear BK168; clear HO171; clear BK174; clear HK; clear HB; clear HI0; have BK168 := n0_; have HO171 := n1_; have BK174 := n2_; have HK := n3_; have HB := n4_; have HI0 := n5_; clear n0_ n1_ n2_ n3_ n4_ n5_; (try clear hb); (try clear hb2); (try clear hk); (try clear hi)) | ((with_reducible refine gate_dst (N := 40) rfl ?_); refine Kd.S_lit (Kd.slice 3 (Kd.int .i64)) _ 28 ?hg (N := 40) ?hd (xs := ([] : List (List Int))) (inner := []) (ok := fun _ => True) (okp := fun _ => True) ?hr ?hp (fun _ hk => hk) trivial (Below.refl _ _) (Nat.le_refl _) (by simp) ?_; (case hd => rfl); (case hg => rfl); (case hr => first | (go_simp; done) | (go_simp; rfl)); (case hp => exact (Reps.none _ _)); intro v197 w65 ho66 hb hg_ hnew_; clear hg_ hnew_; (first | rw [← Ny196.out] at ho66 | (simp only [Int.reduceToNat] at ho66; rw [← Ny196.out] at ho66)); have n0_ := Aside0.mk (Kd.S_elder' (sdl HO171) (Kd.S_base ho66) hb); have n1_ := Aside0.mk (Kd.S_lower (Kd.S_new' ho66 (Kd.S_lt (sdl HO171))) (keep_size (w := w) (g := g) (row := none) (by repeat (first | (with_reducible first | exact HK.out | apply KeepBut.set_ | apply keep_drewN | apply keep_drew | apply keep_alloc | refine keep_far ?_ GW168.out _ | refine keep_far ?_ GW174.out _) | exact HK.out)))); have n2_ := Aside0.mk (IsS58.below (by repeat (first | (with_reducible first | exact HI0.out | apply IsS58.alloc | apply IsS58.drewN | apply IsS58.drew | apply IsS58.set_1 | apply IsS58.set_2 | refine IsS58.far ?_ NB0_168.out _ | refine IsS58.far ?_ NB0_174.out _) | exact HI0.out)) hb); have n3_ := Aside0.mk (blk_below (g := gb168) (o := .cells #[.slice none 0 0] 26 (0, 0)) (bkl BK168) hb); have n4_ := Aside0.mk (blk_below (g := gb174) (o := .cells #[.slice Ao59 t169.length co59] 26 (0, 0)) (bkl BK174) hb); have n5_ := Aside0.mk (KeepBut.trans (by repeat (first | (with_reducible first | exact HK.out | apply KeepBut.set_ | apply keep_drewN | apply keep_drew | apply keep_alloc | refine keep_far ?_ GW168.out _ | refine keep_far ?_ GW174.out _) | exact HK.out)) (KeepBut.of_below hb g none) (.inl rfl)); have n6_ := Aside0.mk (below_step (by repeat (first | (with_reducible first | exact HB.out | apply below_alloc | apply pw_below_drewN | apply below_drew1 | refine below_set ?_ (IsS58.ge HI0.out) | refine below_set ?_ GE168.out | refine below_set ?_ GE174.out) | exact HB.out)) hb); clear HO171; clear HI0; clear BK168; clear BK174; clear HK; clear HB; have HO171 := n0_; have HO198 := n1_; have HI0 := n2_; have BK168 := n3_; have BK174 := n4_; have HK := n5_; have HB := n6_; clear n0_ n1_ n2_ n3_ n4_ n5_ n6_; clear hb ho66; obtain ⟨Ao67, co67, eo67⟩ := Kd.S_slice HO198.out; subst eo67; have hcz68_0 : w65.cell? ⟨gb174, 0, none⟩ = some (.slice Ao59 t169.length co59) := (blk_cell BK174.out 0).trans rfl; have hfz68_0 := blk_frozen BK174.out 0; have hnb69 := NB168_0.out; have hnc69 := NB0_168.out; have hcz70_0 : w65.cell? ⟨gb168, 0, none⟩ = some (.slice none 0 0) := (blk_cell BK168.out 0).trans rfl; have hfz70_0 := blk_frozen BK168.out 0))
  refine bodyPost_ret (results_cell_row rfl _ _ gb168 26 #[.slice Ao67 y196.length co67] (0, 0) _ rfl (by (with_reducible repeat (first | refine blk_drewN ?_ _ | refine blk_drew ?_ | refine blk_alloc ?_ _)); refine blk_put (cs := #[.slice none 0 0]) ?_ 0 _ rfl; (with_reducible repeat (first | refine blk_drewN ?_ _ | refine blk_drew ?_ | refine blk_alloc ?_ _)); refine blk_far ?_ NB168_174.out _; (with_reducible repeat (first | refine blk_drewN ?_ _ | refine blk_drew ?_ | refine blk_alloc ?_ _)); exact BK168.out) Try.underlying26 rfl (by kernel_rfl)) rfl ?_
  exact ⟨_, by first | rfl | (simp [errW_none, errW_some] <;> rfl) | (simp [*, errW_none, errW_some] <;> rfl), by (with_reducible repeat (first | apply Kd.S_alloc | apply Kd.S_drewN | apply Kd.S_drew)); exact Kd.S_mono (Kd.S_far (p := ⟨gb168, 0, none⟩) (Kd.S_far (p := ⟨gb174, 0, none⟩) (Kd.S_types (Kd.S_types HO198.out BK174.out (by decide)) BK168.out (by decide)) (fun _ hk => hk.1.2) (.slice Ao67 y196.length co67)) (fun _ hk => hk.2) (.slice Ao67 y196.length co67)) (fun _ hk => trivial), by repeat (first | (with_reducible first | exact HI0.out | apply IsS58.alloc | apply IsS58.drewN | apply IsS58.drew | apply IsS58.set_1 | apply IsS58.set_2 | refine IsS58.far ?_ NB0_168.out _ | refine IsS58.far ?_ NB0_174.out _) | exact HI0.out), by repeat (first | (with_reducible first | exact HB.out | apply below_alloc | apply pw_below_drewN | apply below_drew1 | refine below_set ?_ (IsS58.ge HI0.out) | refine below_set ?_ GE168.out | refine below_set ?_ GE174.out) | exact HB.out), by repeat (first | (with_reducible first | exact HK.out | apply KeepBut.set_ | apply keep_drewN | apply keep_drew | apply keep_alloc | refine keep_far ?_ GW168.out _ | refine keep_far ?_ GW174.out _) | exact HK.out)⟩
 rw [if_neg c55] at H
 have c55b0 : (t178 == 2) = false := beq_eq_false_iff_ne.mpr c55
 have c55b1 : (t178 != 2) = true := bne_iff_ne.mpr c55
 by_cases c71 : t178 = 3
 rotate_left
 ·rw [if_neg c71] at H
  have c71b0 : (t178 == 3) = false := beq_eq_false_iff_ne.mpr c71
  have c71b1 : (t178 != 3) = true := bne_iff_ne.mpr c71
  simp only [Option.some.injEq, Prod.mk.injEq] at H
  obtain ⟨rfl, rfl, rfl⟩ := H
  go_enter Try.func35, Try.ntmps35
  go_wp2_with (first | ((with_reducible refine gate_dst (N := 2) rfl ?_); refine box_event ?hg (N := 2) ?hd (cs := #[.slice none 0 0]) (t := 26) ?hr ?_; (case hd => rfl); (case hg => rfl); (case hr => first | (go_simp; done) | (go_simp; rfl)); intro gb168 hg w113 hbox hb; have n0_ := Aside0.mk (IsS58.below (by repeat (first | (with_reducible first | exact HI0.out | apply IsS58.alloc | apply IsS58.drewN | apply IsS58.drew | apply IsS58.set_1 | apply IsS58.set_2) | exact HI0.out)) hb); have n1_ := Aside0.mk (KeepBut.trans (by repeat (first | (with_reducible first | exact HK.out | apply KeepBut.set_ | apply keep_drewN | apply keep_drew | apply keep_alloc) | exact HK.out)) (KeepBut.of_below hb g none) (.inl rfl)); have n2_ := Aside0.mk (below_step (by repeat (first | (with_reducible first | exact HB.out | apply below_alloc | apply pw_below_drewN | apply below_drew1 | refine below_set ?_ (IsS58.ge HI0.out)) | exact HB.out)) hb); have n3_ := Aside0.mk (hbox); have n4_ := Aside0.mk ((by rw [hg]; exact (keep_size (w := w) (g := g) (row := none) (by repeat (first | (with_reducible first | exact HK.out | apply KeepBut.set_ | apply keep_drewN | apply keep_drew | apply keep_alloc) | exact HK.out))) : w.heap.size ≤ gb168)); have n5_ := Aside0.mk ((Nat.le_trans HW0.out (by rw [hg]; exact (keep_size (w := w) (g := g) (row := none) (by repeat (first | (with_reducible first | exact HK.out | apply KeepBut.set_ | apply keep_drewN | apply keep_drew | apply keep_alloc) | exact HK.out))) : w.heap.size ≤ gb168) : w0.heap.size ≤ gb168)); have n6_ := Aside0.mk ((by rw [hg]; exact Nat.ne_of_lt (IsS58.lt (show IsS58 w0 _ g s0_0 s0_1 s0_2 from by repeat (first | (with_reducible first | exact HI0.out | apply IsS58.alloc | apply IsS58.drewN | apply IsS58.drew | apply IsS58.set_1 | apply IsS58.set_2) | exact HI0.out))) : g ≠ gb168)); have n7_ := Aside0.mk ((by rw [hg]; exact Nat.ne_of_gt (IsS58.lt (show IsS58 w0 _ g s0_0 s0_1 s0_2 from by repeat (first | (with_reducible first | exact HI0.out | apply IsS58.alloc | apply IsS58.drewN | apply IsS58.drew | apply IsS58.set_1 | apply IsS58.set_2) | exact HI0.out))) : gb168 ≠ g)); clear HI0; clear HK; clear HB; have HI0 := n0_; have HK := n1_; have HB := n2_; have BK168 := n3_; have GW168 := n4_; have GE168 := n5_; have NB0_168 := n6_; have NB168_0 := n7_; clear n0_ n1_ n2_ n3_ n4_ n5_ n6_ n7_; clear hb hbox hg) | ((with_reducible refine gate_callee (f := 60) rfl ?_); refine goesL_ (some 7) rfl rfl Try.func60 (by kernel_rfl) rfl #[.pointer (some ⟨g, 0, none⟩)] rfl gmp ?_; (with_reducible refine (spec_l1Cur_yard.calls k g s0_0 s0_1 s0_2 t169 t172 t173 w0 _ ?side1 ?side2 A2.out).mono ?_); (case side1 => repeat (first | (with_reducible first | exact HI0.out | apply IsS58.alloc | apply IsS58.drewN | apply IsS58.drew | apply IsS58.set_1 | apply IsS58.set_2 | refine IsS58.far ?_ NB0_168.out _) | exact HI0.out)); (case side2 => repeat (first | (with_reducible first | exact HB.out | apply below_alloc | apply pw_below_drewN | apply below_drew1 | refine below_set ?_ (IsS58.ge HI0.out) | refine below_set ?_ GE168.out) | exact HB.out)); rintro e w114 ⟨v170, rfl, ho0, hi, hb, hk⟩; refine ⟨_, rfl, ?_⟩; have n0_ := Aside0.mk (KeepBut.blk hk (g' := gb168) (o := .cells #[.slice none 0 0] 26 (0, 0)) (bkl BK168) NB168_0.out (by simp)); have n1_ := Aside0.mk (Kd.S_lower ho0 (keep_size (w := w) (g := g) (row := none) (by repeat (first | (with_reducible first | exact HK.out | apply KeepBut.set_ | apply keep_drewN | apply keep_drew | apply keep_alloc | refine keep_far ?_ GW168.out _) | exact HK.out)))); have n2_ := Aside0.mk (KeepBut.trans (by repeat (first | (with_reducible first | exact HK.out | apply KeepBut.set_ | apply keep_drewN | apply keep_drew | apply keep_alloc | refine keep_far ?_ GW168.out _) | exact HK.out)) hk (.inl rfl)); have n3_ := Aside0.mk (hb); have n4_ := Aside0.mk (hi); clear BK168; clear HK; clear HB; clear HI0; have BK168 := n0_; have HO171 := n1_; have HK := n2_; have HB := n3_; have HI0 := n4_; clear n0_ n1_ n2_ n3_ n4_; (try clear hb); (try clear hb2); (try clear hk); (try clear hi); (try clear ho0)) | ((with_reducible refine gate_dst (N := 3) rfl ?_); refine box_event ?hg (N := 3) ?hd (cs := #[.slice none 0 0]) (t := 26) ?hr ?_; (case hd => rfl); (case hg => rfl); (case hr => first | (go_simp; done) | (go_simp; rfl)); intro gb174 hg w115 hbox hb; have n0_ := Aside0.mk (Kd.S_below (sdl HO171) hb); have n1_ := Aside0.mk (IsS58.below (by repeat (first | (with_reducible first | exact HI0.out | apply IsS58.alloc | apply IsS58.drewN | apply IsS58.drew | apply IsS58.set_1 | apply IsS58.set_2 | refine IsS58.far ?_ NB0_168.out _) | exact HI0.out)) hb); have n2_ := Aside0.mk (blk_below (g := gb168) (o := .cells #[.slice none 0 0] 26 (0, 0)) (bkl BK168) hb); have n3_ := Aside0.mk (KeepBut.trans (by repeat (first | (with_reducible first | exact HK.out | apply KeepBut.set_ | apply keep_drewN | apply keep_drew | apply keep_alloc | refine keep_far ?_ GW168.out _) | exact HK.out)) (KeepBut.of_below hb g none) (.inl rfl)); have n4_ := Aside0.mk (below_step (by repeat (first | (with_reducible first | exact HB.out | apply below_alloc | apply pw_below_drewN | apply below_drew1 | refine below_set ?_ (IsS58.ge HI0.out) | refine below_set ?_ GE168.out) | exact HB.out)) hb); have n5_ := Aside0.mk (hbox); have n6_ := Aside0.mk ((by rw [hg]; exact (keep_size (w := w) (g := g) (row := none) (by repeat (first | (with_reducible first | exact HK.out | apply KeepBut.set_ | apply keep_drewN | apply keep_drew | apply keep_alloc | refine keep_far ?_ GW168.out _) | exact HK.out))) : w.heap.size ≤ gb174)); have n7_ := Aside0.mk ((Nat.le_trans HW0.out (by rw [hg]; exact (keep_size (w := w) (g := g) (row := none) (by repeat (first | (with_reducible first | exact HK.out | apply KeepBut.set_ | apply keep_drewN | apply keep_drew | apply keep_alloc | refine keep_far ?_ GW168.out _) | exact HK.out))) : w.heap.size ≤ gb174) : w0.heap.size ≤ gb174)); have n8_ := Aside0.mk ((by rw [hg]; exact Nat.ne_of_lt (blk_lt (g := gb168) (o := .cells #[.slice none 0 0] 26 (0, 0)) (bkl BK168)) : gb168 ≠ gb174)); have n9_ := Aside0.mk ((by rw [hg]; exact Nat.ne_of_gt (blk_lt (g := gb168) (o := .cells #[.slice none 0 0] 26 (0, 0)) (bkl BK168)) : gb174 ≠ gb168)); have n10_ := Aside0.mk ((by rw [hg]; exact Nat.ne_of_lt (IsS58.lt (show IsS58 w0 _ g s0_0 t172 t173 from by repeat (first | (with_reducible first | exact HI0.out | apply IsS58.alloc | apply IsS58.drewN | apply IsS58.drew | apply IsS58.set_1 | apply IsS58.set_2 | refine IsS58.far ?_ NB0_168.out _) | exact HI0.out))) : g ≠ gb174)); have n11_ := Aside0.mk ((by rw [hg]; exact Nat.ne_of_gt (IsS58.lt (show IsS58 w0 _ g s0_0 t172 t173 from by repeat (first | (with_reducible first | exact HI0.out | apply IsS58.alloc | apply IsS58.drewN | apply IsS58.drew | apply IsS58.set_1 | apply IsS58.set_2 | refine IsS58.far ?_ NB0_168.out _) | exact HI0.out))) : gb174 ≠ g)); clear HO171; clear HI0; clear BK168; clear HK; clear HB; have HO171 := n0_; have HI0 := n1_; have BK168 := n2_; have HK := n3_; have HB := n4_; have BK174 := n5_; have GW174 := n6_; have GE174 := n7_; have NB168_174 := n8_; have NB174_168 := n9_; have NB0_174 := n10_; have NB174_0 := n11_; clear n0_ n1_ n2_ n3_ n4_ n5_ n6_ n7_ n8_ n9_ n10_ n11_; clear hb hbox hg; obtain ⟨Ao116, co116, eo116⟩ := Kd.S_slice HO171.out; subst eo116; have hnb117 := NB174_168.out; have hnc117 := NB168_174.out; have hnb118 := NB174_0.out; have hnc118 := NB0_174.out; have hcz119_0 : w115.cell? ⟨gb174, 0, none⟩ = some (.slice none 0 0) := (blk_cell BK174.out 0).trans rfl; have hfz119_0 := blk_frozen BK174.out 0) | ((with_reducible refine gate_callee (f := 44) rfl ?_); refine goesL_ (some 12) rfl rfl Try.func44 (by kernel_rfl) rfl #[.pointer (some ⟨g, 0, none⟩), .int .i64 (t169.length : Int)] rfl gmp ?_; (with_reducible refine (spec_l1Cur_pick.calls g s0_0 t172 t173 (t169.length : Int) t175 t176 t177 w0 _ ?side1 ?side2 A3.out).mono ?_); (case side1 => repeat (first | (with_reducible first | exact HI0.out | apply IsS58.alloc | apply IsS58.drewN | apply IsS58.drew | apply IsS58.set_1 | apply IsS58.set_2 | refine IsS58.far ?_ NB0_168.out _ | refine IsS58.far ?_ NB0_174.out _) | exact HI0.out)); (case side2 => repeat (first | (with_reducible first | exact HB.out | apply below_alloc | apply pw_below_drewN | apply below_drew1 | refine below_set ?_ (IsS58.ge HI0.out) | refine below_set ?_ GE168.out | refine below_set ?_ GE174.out) | exact HB.out)); rintro e w120 ⟨rfl, hi, hb, hk⟩; refine ⟨_, rfl, ?_⟩; have n0_ := Aside0.mk (KeepBut.blk hk (g' := gb168) (o := .cells #[.slice none 0 0] 26 (0, 0)) (by (with_reducible repeat (first | refine blk_drewN ?_ _ | refine blk_drew ?_ | refine blk_alloc ?_ _)); refine blk_far ?_ NB168_174.out _; (with_reducible repeat (first | refine blk_drewN ?_ _ | refine blk_drew ?_ | refine blk_alloc ?_ _)); exact BK168.out) NB168_0.out (by simp)); have n1_ := Aside0.mk (Kd.S_mono (Kd.S_keep (IsS58.apartS (show IsS58 w0 _ g s0_0 t172 t173 from by repeat (first | (with_reducible first | exact HI0.out | apply IsS58.alloc | apply IsS58.drewN | apply IsS58.drew | apply IsS58.set_1 | apply IsS58.set_2 | refine IsS58.far ?_ NB0_168.out _ | refine IsS58.far ?_ NB0_174.out _) | exact HI0.out)) (by (with_reducible repeat (first | apply Kd.S_alloc | apply Kd.S_drewN | apply Kd.S_drew)); exact (Kd.S_mono (Kd.S_far (p := ⟨gb174, 0, none⟩) (Kd.S_types HO171.out BK174.out (by decide)) (fun _ hk => hk.2) (.slice Ao116 t169.length co116)) (fun _ h_ => h_.1))) (by decide)) hk (fun _ h => h.2)) (fun _ h => h.1)); have n2_ := Aside0.mk (KeepBut.blk hk (g' := gb174) (o := .cells #[.slice Ao116 t169.length co116] 26 (0, 0)) (by (with_reducible repeat (first | refine blk_drewN ?_ _ | refine blk_drew ?_ | refine blk_alloc ?_ _)); refine blk_put (cs := #[.slice none 0 0]) ?_ 0 _ rfl; (with_reducible repeat (first | refine blk_drewN ?_ _ | refine blk_drew ?_ | refine blk_alloc ?_ _)); exact BK174.out) NB174_0.out (by simp)); have n3_ := Aside0.mk (KeepBut.trans (by repeat (first | (with_reducible first | exact HK.out | apply KeepBut.set_ | apply keep_drewN | apply keep_drew | apply keep_alloc | refine keep_far ?_ GW168.out _ | refine keep_far ?_ GW174.out _) | exact HK.out)) hk (.inl rfl)); have n4_ := Aside0.mk (hb); have n5_ := Aside0.mk (hi); clear BK168; clear HO171; clear BK174; clear HK; clear HB; clear HI0; have BK168 := n0_; have HO171 := n1_; have BK174 := n2_; have HK := n3_; have HB := n4_; have HI0 := n5_; clear n0_ n1_ n2_ n3_ n4_ n5_; (try clear hb); (try clear hb2); (try clear hk); (try clear hi)) | ((with_reducible refine gate_callee (f := 44) rfl ?_); refine goesL_ (some 14) rfl rfl Try.func44 (by kernel_rfl) rfl #[.pointer (some ⟨g, 0, none⟩), .int .i64 24] rfl gmp ?_; (with_reducible refine (spec_l1Cur_pick.calls g s0_0 t176 t177 24 t178 t179 t180 w0 _ ?side1 ?side2 A4.out).mono ?_); (case side1 => repeat (first | (with_reducible first | exact HI0.out | apply IsS58.alloc | apply IsS58.drewN | apply IsS58.drew | apply IsS58.set_1 | apply IsS58.set_2 | refine IsS58.far ?_ NB0_168.out _ | refine IsS58.far ?_ NB0_174.out _) | exact HI0.out)); (case side2 => repeat (first | (with_reducible first | exact HB.out | apply below_alloc | apply pw_below_drewN | apply below_drew1 | refine below_set ?_ (IsS58.ge HI0.out) | refine below_set ?_ GE168.out | refine below_set ?_ GE174.out) | exact HB.out)); rintro e w121 ⟨rfl, hi, hb, hk⟩; refine ⟨_, rfl, ?_⟩; have n0_ := Aside0.mk (KeepBut.blk hk (g' := gb168) (o := .cells #[.slice none 0 0] 26 (0, 0)) (bkl BK168) NB168_0.out (by simp)); have n1_ := Aside0.mk (Kd.S_mono (Kd.S_keep (IsS58.apartS (show IsS58 w0 _ g s0_0 t176 t177 from by repeat (first | (with_reducible first | exact HI0.out | apply IsS58.alloc | apply IsS58.drewN | apply IsS58.drew | apply IsS58.set_1 | apply IsS58.set_2 | refine IsS58.far ?_ NB0_168.out _ | refine IsS58.far ?_ NB0_174.out _) | exact HI0.out)) (sdl HO171) (by decide)) hk (fun _ h => h.2)) (fun _ h => h.1)); have n2_ := Aside0.mk (KeepBut.blk hk (g' := gb174) (o := .cells #[.slice Ao116 t169.length co116] 26 (0, 0)) (bkl BK174) NB174_0.out (by simp)); have n3_ := Aside0.mk (KeepBut.trans (by repeat (first | (with_reducible first | exact HK.out | apply KeepBut.set_ | apply keep_drewN | apply keep_drew | apply keep_alloc | refine keep_far ?_ GW168.out _ | refine keep_far ?_ GW174.out _) | exact HK.out)) hk (.inl rfl)); have n4_ := Aside0.mk (hb); have n5_ := Aside0.mk (hi); clear BK168; clear HO171; clear BK174; clear HK; clear HB; clear HI0; have BK168 := n0_; have HO171 := n1_; have BK174 := n2_; have HK := n3_; have HB := n4_; have HI0 := n5_; clear n0_ n1_ n2_ n3_ n4_ n5_; (try clear hb); (try clear hb2); (try clear hk); (try clear hi); have hcz122_0 : w121.cell? ⟨gb174, 0, none⟩ = some (.slice Ao116 t169.length co116) := (blk_cell BK174.out 0).trans rfl; have hfz122_0 := blk_frozen BK174.out 0; have hnb123 := NB168_0.out; have hnc123 := NB0_168.out; have hcz124_0 : w121.cell? ⟨gb168, 0, none⟩ = some (.slice none 0 0) := (blk_cell BK168.out 0).trans rfl; have hfz124_0 := blk_frozen BK168.out 0))
  refine bodyPost_ret (results_cell_row rfl _ _ gb168 26 #[.slice Ao116 t169.length co116] (0, 0) _ rfl (by (with_reducible repeat (first | refine blk_drewN ?_ _ | refine blk_drew ?_ | refine blk_alloc ?_ _)); refine blk_put (cs := #[.slice none 0 0]) ?_ 0 _ rfl; (with_reducible repeat (first | refine blk_drewN ?_ _ | refine blk_drew ?_ | refine blk_alloc ?_ _)); exact BK168.out) Try.underlying26 rfl (by kernel_rfl)) rfl ?_
  exact ⟨_, by first | rfl | (simp [errW_none, errW_some] <;> rfl) | (simp [*, errW_none, errW_some] <;> rfl), by (with_reducible repeat (first | apply Kd.S_alloc | apply Kd.S_drewN | apply Kd.S_drew)); exact Kd.S_mono (Kd.S_far (p := ⟨gb168, 0, none⟩) (Kd.S_types HO171.out BK168.out (by decide)) (fun _ hk => hk.2) (.slice Ao116 t169.length co116)) (fun _ hk => trivial), by repeat (first | (with_reducible first | exact HI0.out | apply IsS58.alloc | apply IsS58.drewN | apply IsS58.drew | apply IsS58.set_1 | apply IsS58.set_2 | refine IsS58.far ?_ NB0_168.out _ | refine IsS58.far ?_ NB0_174.out _) | exact HI0.out), by repeat (first | (with_reducible first | exact HB.out | apply below_alloc | apply pw_below_drewN | apply below_drew1 | refine below_set ?_ (IsS58.ge HI0.out) | refine below_set ?_ GE168.out | refine below_set ?_ GE174.out) | exact HB.out), by repeat (first | (with_reducible first | exact HK.out | apply KeepBut.set_ | apply keep_drewN | apply keep_drew | apply keep_alloc | refine keep_far ?_ GW168.out _ | refine keep_far ?_ GW174.out _) | exact HK.out)⟩
 rw [if_pos c71] at H
 have c71b0 : (t178 == 3) = true := beq_iff_eq.mpr c71
 have c71b1 : (t178 != 3) = false := bne_eq_false_iff_eq.mpr c71
 clear c71
 have H' := Aside0.mk H
 clear H
 go_enter Try.func35, Try.ntmps35
 go_wp2_with (first | ((with_reducible refine gate_dst (N := 2) rfl ?_); refine box_event ?hg (N := 2) ?hd (cs := #[.slice none 0 0]) (t := 26) ?hr ?_; (case hd => rfl); (case hg => rfl); (case hr => first | (go_simp; done) | (go_simp; rfl)); intro gb168 hg w72 hbox hb; have n0_ := Aside0.mk (IsS58.below (by repeat (first | (with_reducible first | exact HI0.out | apply IsS58.alloc | apply IsS58.drewN | apply IsS58.drew | apply IsS58.set_1 | apply IsS58.set_2) | exact HI0.out)) hb); have n1_ := Aside0.mk (KeepBut.trans (by repeat (first | (with_reducible first | exact HK.out | apply KeepBut.set_ | apply keep_drewN | apply keep_drew | apply keep_alloc) | exact HK.out)) (KeepBut.of_below hb g none) (.inl rfl)); have n2_ := Aside0.mk (below_step (by repeat (first | (with_reducible first | exact HB.out | apply below_alloc | apply pw_below_drewN | apply below_drew1 | refine below_set ?_ (IsS58.ge HI0.out)) | exact HB.out)) hb); have n3_ := Aside0.mk (hbox); have n4_ := Aside0.mk ((by rw [hg]; exact (keep_size (w := w) (g := g) (row := none) (by repeat (first | (with_reducible first | exact HK.out | apply KeepBut.set_ | apply keep_drewN | apply keep_drew | apply keep_alloc) | exact HK.out))) : w.heap.size ≤ gb168)); have n5_ := Aside0.mk ((Nat.le_trans HW0.out (by rw [hg]; exact (keep_size (w := w) (g := g) (row := none) (by repeat (first | (with_reducible first | exact HK.out | apply KeepBut.set_ | apply keep_drewN | apply keep_drew | apply keep_alloc) | exact HK.out))) : w.heap.size ≤ gb168) : w0.heap.size ≤ gb168)); have n6_ := Aside0.mk ((by rw [hg]; exact Nat.ne_of_lt (IsS58.lt (show IsS58 w0 _ g s0_0 s0_1 s0_2 from by repeat (first | (with_reducible first | exact HI0.out | apply IsS58.alloc | apply IsS58.drewN | apply IsS58.drew | apply IsS58.set_1 | apply IsS58.set_2) | exact HI0.out))) : g ≠ gb168)); have n7_ := Aside0.mk ((by rw [hg]; exact Nat.ne_of_gt (IsS58.lt (show IsS58 w0 _ g s0_0 s0_1 s0_2 from by repeat (first | (with_reducible first | exact HI0.out | apply IsS58.alloc | apply IsS58.drewN | apply IsS58.drew | apply IsS58.set_1 | apply IsS58.set_2) | exact HI0.out))) : gb168 ≠ g)); clear HI0; clear HK; clear HB; have HI0 := n0_; have HK := n1_; have HB := n2_; have BK168 := n3_; have GW168 := n4_; have GE168 := n5_; have NB0_168 := n6_; have NB168_0 := n7_; clear n0_ n1_ n2_ n3_ n4_ n5_ n6_ n7_; clear hb hbox hg) | ((with_reducible refine gate_callee (f := 60) rfl ?_); refine goesL_ (some 7) rfl rfl Try.func60 (by kernel_rfl) rfl #[.pointer (some ⟨g, 0, none⟩)] rfl gmp ?_; (with_reducible refine (spec_l1Cur_yard.calls k g s0_0 s0_1 s0_2 t169 t172 t173 w0 _ ?side1 ?side2 A2.out).mono ?_); (case side1 => repeat (first | (with_reducible first | exact HI0.out | apply IsS58.alloc | apply IsS58.drewN | apply IsS58.drew | apply IsS58.set_1 | apply IsS58.set_2 | refine IsS58.far ?_ NB0_168.out _) | exact HI0.out)); (case side2 => repeat (first | (with_reducible first | exact HB.out | apply below_alloc | apply pw_below_drewN | apply below_drew1 | refine below_set ?_ (IsS58.ge HI0.out) | refine below_set ?_ GE168.out) | exact HB.out)); rintro e w73 ⟨v170, rfl, ho0, hi, hb, hk⟩; refine ⟨_, rfl, ?_⟩; have n0_ := Aside0.mk (KeepBut.blk hk (g' := gb168) (o := .cells #[.slice none 0 0] 26 (0, 0)) (bkl BK168) NB168_0.out (by simp)); have n1_ := Aside0.mk (Kd.S_lower ho0 (keep_size (w := w) (g := g) (row := none) (by repeat (first | (with_reducible first | exact HK.out | apply KeepBut.set_ | apply keep_drewN | apply keep_drew | apply keep_alloc | refine keep_far ?_ GW168.out _) | exact HK.out)))); have n2_ := Aside0.mk (KeepBut.trans (by repeat (first | (with_reducible first | exact HK.out | apply KeepBut.set_ | apply keep_drewN | apply keep_drew | apply keep_alloc | refine keep_far ?_ GW168.out _) | exact HK.out)) hk (.inl rfl)); have n3_ := Aside0.mk (hb); have n4_ := Aside0.mk (hi); clear BK168; clear HK; clear HB; clear HI0; have BK168 := n0_; have HO171 := n1_; have HK := n2_; have HB := n3_; have HI0 := n4_; clear n0_ n1_ n2_ n3_ n4_; (try clear hb); (try clear hb2); (try clear hk); (try clear hi); (try clear ho0)) | ((with_reducible refine gate_dst (N := 3) rfl ?_); refine box_event ?hg (N := 3) ?hd (cs := #[.slice none 0 0]) (t := 26) ?hr ?_; (case hd => rfl); (case hg => rfl); (case hr => first | (go_simp; done) | (go_simp; rfl)); intro gb174 hg w74 hbox hb; have n0_ := Aside0.mk (Kd.S_below (sdl HO171) hb); have n1_ := Aside0.mk (IsS58.below (by repeat (first | (with_reducible first | exact HI0.out | apply IsS58.alloc | apply IsS58.drewN | apply IsS58.drew | apply IsS58.set_1 | apply IsS58.set_2 | refine IsS58.far ?_ NB0_168.out _) | exact HI0.out)) hb); have n2_ := Aside0.mk (blk_below (g := gb168) (o := .cells #[.slice none 0 0] 26 (0, 0)) (bkl BK168) hb); have n3_ := Aside0.mk (KeepBut.trans (by repeat (first | (with_reducible first | exact HK.out | apply KeepBut.set_ | apply keep_drewN | apply keep_drew | apply keep_alloc | refine keep_far ?_ GW168.out _) | exact HK.out)) (KeepBut.of_below hb g none) (.inl rfl)); have n4_ := Aside0.mk (below_step (by repeat (first | (with_reducible first | exact HB.out | apply below_alloc | apply pw_below_drewN | apply below_drew1 | refine below_set ?_ (IsS58.ge HI0.out) | refine below_set ?_ GE168.out) | exact HB.out)) hb); have n5_ := Aside0.mk (hbox); have n6_ := Aside0.mk ((by rw [hg]; exact (keep_size (w := w) (g := g) (row := none) (by repeat (first | (with_reducible first | exact HK.out | apply KeepBut.set_ | apply keep_drewN | apply keep_drew | apply keep_alloc | refine keep_far ?_ GW168.out _) | exact HK.out))) : w.heap.size ≤ gb174)); have n7_ := Aside0.mk ((Nat.le_trans HW0.out (by rw [hg]; exact (keep_size (w := w) (g := g) (row := none) (by repeat (first | (with_reducible first | exact HK.out | apply KeepBut.set_ | apply keep_drewN | apply keep_drew | apply keep_alloc | refine keep_far ?_ GW168.out _) | exact HK.out))) : w.heap.size ≤ gb174) : w0.heap.size ≤ gb174)); have n8_ := Aside0.mk ((by rw [hg]; exact Nat.ne_of_lt (blk_lt (g := gb168) (o := .cells #[.slice none 0 0] 26 (0, 0)) (bkl BK168)) : gb168 ≠ gb174)); have n9_ := Aside0.mk ((by rw [hg]; exact Nat.ne_of_gt (blk_lt (g := gb168) (o := .cells #[.slice none 0 0] 26 (0, 0)) (bkl BK168)) : gb174 ≠ gb168)); have n10_ := Aside0.mk ((by rw [hg]; exact Nat.ne_of_lt (IsS58.lt (show IsS58 w0 _ g s0_0 t172 t173 from by repeat (first | (with_reducible first | exact HI0.out | apply IsS58.alloc | apply IsS58.drewN | apply IsS58.drew | apply IsS58.set_1 | apply IsS58.set_2 | refine IsS58.far ?_ NB0_168.out _) | exact HI0.out))) : g ≠ gb174)); have n11_ := Aside0.mk ((by rw [hg]; exact Nat.ne_of_gt (IsS58.lt (show IsS58 w0 _ g s0_0 t172 t173 from by repeat (first | (with_reducible first | exact HI0.out | apply IsS58.alloc | apply IsS58.drewN | apply IsS58.drew | apply IsS58.set_1 | apply IsS58.set_2 | refine IsS58.far ?_ NB0_168.out _) | exact HI0.out))) : gb174 ≠ g)); clear HO171; clear HI0; clear BK168; clear HK; clear HB; have HO171 := n0_; have HI0 := n1_; have BK168 := n2_; have HK := n3_; have HB := n4_; have BK174 := n5_; have GW174 := n6_; have GE174 := n7_; have NB168_174 := n8_; have NB174_168 := n9_; have NB0_174 := n10_; have NB174_0 := n11_; clear n0_ n1_ n2_ n3_ n4_ n5_ n6_ n7_ n8_ n9_ n10_ n11_; clear hb hbox hg; obtain ⟨Ao75, co75, eo75⟩ := Kd.S_slice HO171.out; subst eo75; have hnb76 := NB174_168.out; have hnc76 := NB168_174.out; have hnb77 := NB174_0.out; have hnc77 := NB0_174.out; have hcz78_0 : w74.cell? ⟨gb174, 0, none⟩ = some (.slice none 0 0) := (blk_cell BK174.out 0).trans rfl; have hfz78_0 := blk_frozen BK174.out 0) | ((with_reducible refine gate_callee (f := 44) rfl ?_); refine goesL_ (some 12) rfl rfl Try.func44 (by kernel_rfl) rfl #[.pointer (some ⟨g, 0, none⟩), .int .i64 (t169.length : Int)] rfl gmp ?_; (with_reducible refine (spec_l1Cur_pick.calls g s0_0 t172 t173 (t169.length : Int) t175 t176 t177 w0 _ ?side1 ?side2 A3.out).mono ?_); (case side1 => repeat (first | (with_reducible first | exact HI0.out | apply IsS58.alloc | apply IsS58.drewN | apply IsS58.drew | apply IsS58.set_1 | apply IsS58.set_2 | refine IsS58.far ?_ NB0_168.out _ | refine IsS58.far ?_ NB0_174.out _) | exact HI0.out)); (case side2 => repeat (first | (with_reducible first | exact HB.out | apply below_alloc | apply pw_below_drewN | apply below_drew1 | refine below_set ?_ (IsS58.ge HI0.out) | refine below_set ?_ GE168.out | refine below_set ?_ GE174.out) | exact HB.out)); rintro e w79 ⟨rfl, hi, hb, hk⟩; refine ⟨_, rfl, ?_⟩; have n0_ := Aside0.mk (KeepBut.blk hk (g' := gb168) (o := .cells #[.slice none 0 0] 26 (0, 0)) (by (with_reducible repeat (first | refine blk_drewN ?_ _ | refine blk_drew ?_ | refine blk_alloc ?_ _)); refine blk_far ?_ NB168_174.out _; (with_reducible repeat (first | refine blk_drewN ?_ _ | refine blk_drew ?_ | refine blk_alloc ?_ _)); exact BK168.out) NB168_0.out (by simp)); have n1_ := Aside0.mk (Kd.S_mono (Kd.S_keep (IsS58.apartS (show IsS58 w0 _ g s0_0 t172 t173 from by repeat (first | (with_reducible first | exact HI0.out | apply IsS58.alloc | apply IsS58.drewN | apply IsS58.drew | apply IsS58.set_1 | apply IsS58.set_2 | refine IsS58.far ?_ NB0_168.out _ | refine IsS58.far ?_ NB0_174.out _) | exact HI0.out)) (by (with_reducible repeat (first | apply Kd.S_alloc | apply Kd.S_drewN | apply Kd.S_drew)); exact (Kd.S_mono (Kd.S_far (p := ⟨gb174, 0, none⟩) (Kd.S_types HO171.out BK174.out (by decide)) (fun _ hk => hk.2) (.slice Ao75 t169.length co75)) (fun _ h_ => h_.1))) (by decide)) hk (fun _ h => h.2)) (fun _ h => h.1)); have n2_ := Aside0.mk (KeepBut.blk hk (g' := gb174) (o := .cells #[.slice Ao75 t169.length co75] 26 (0, 0)) (by (with_reducible repeat (first | refine blk_drewN ?_ _ | refine blk_drew ?_ | refine blk_alloc ?_ _)); refine blk_put (cs := #[.slice none 0 0]) ?_ 0 _ rfl; (with_reducible repeat (first | refine blk_drewN ?_ _ | refine blk_drew ?_ | refine blk_alloc ?_ _)); exact BK174.out) NB174_0.out (by simp)); have n3_ := Aside0.mk (KeepBut.trans (by repeat (first | (with_reducible first | exact HK.out | apply KeepBut.set_ | apply keep_drewN | apply keep_drew | apply keep_alloc | refine keep_far ?_ GW168.out _ | refine keep_far ?_ GW174.out _) | exact HK.out)) hk (.inl rfl)); have n4_ := Aside0.mk (hb); have n5_ := Aside0.mk (hi); clear BK168; clear HO171; clear BK174; clear HK; clear HB; clear HI0; have BK168 := n0_; have HO171 := n1_; have BK174 := n2_; have HK := n3_; have HB := n4_; have HI0 := n5_; clear n0_ n1_ n2_ n3_ n4_ n5_; (try clear hb); (try clear hb2); (try clear hk); (try clear hi)) | ((with_reducible refine gate_callee (f := 44) rfl ?_); refine goesL_ (some 14) rfl rfl Try.func44 (by kernel_rfl) rfl #[.pointer (some ⟨g, 0, none⟩), .int .i64 24] rfl gmp ?_; (with_reducible refine (spec_l1Cur_pick.calls g s0_0 t176 t177 24 t178 t179 t180 w0 _ ?side1 ?side2 A4.out).mono ?_); (case side1 => repeat (first | (with_reducible first | exact HI0.out | apply IsS58.alloc | apply IsS58.drewN | apply IsS58.drew | apply IsS58.set_1 | apply IsS58.set_2 | refine IsS58.far ?_ NB0_168.out _ | refine IsS58.far ?_ NB0_174.out _) | exact HI0.out)); (case side2 => repeat (first | (with_reducible first | exact HB.out | apply below_alloc | apply pw_below_drewN | apply below_drew1 | refine below_set ?_ (IsS58.ge HI0.out) | refine below_set ?_ GE168.out | refine below_set ?_ GE174.out) | exact HB.out)); rintro e w80 ⟨rfl, hi, hb, hk⟩; refine ⟨_, rfl, ?_⟩; have n0_ := Aside0.mk (KeepBut.blk hk (g' := gb168) (o := .cells #[.slice none 0 0] 26 (0, 0)) (bkl BK168) NB168_0.out (by simp)); have n1_ := Aside0.mk (Kd.S_mono (Kd.S_keep (IsS58.apartS (show IsS58 w0 _ g s0_0 t176 t177 from by repeat (first | (with_reducible first | exact HI0.out | apply IsS58.alloc | apply IsS58.drewN | apply IsS58.drew | apply IsS58.set_1 | apply IsS58.set_2 | refine IsS58.far ?_ NB0_168.out _ | refine IsS58.far ?_ NB0_174.out _) | exact HI0.out)) (sdl HO171) (by decide)) hk (fun _ h => h.2)) (fun _ h => h.1)); have n2_ := Aside0.mk (KeepBut.blk hk (g' := gb174) (o := .cells #[.slice Ao75 t169.length co75] 26 (0, 0)) (bkl BK174) NB174_0.out (by simp)); have n3_ := Aside0.mk (KeepBut.trans (by repeat (first | (with_reducible first | exact HK.out | apply KeepBut.set_ | apply keep_drewN | apply keep_drew | apply keep_alloc | refine keep_far ?_ GW168.out _ | refine keep_far ?_ GW174.out _) | exact HK.out)) hk (.inl rfl)); have n4_ := Aside0.mk (hb); have n5_ := Aside0.mk (hi); clear BK168; clear HO171; clear BK174; clear HK; clear HB; clear HI0; have BK168 := n0_; have HO171 := n1_; have BK174 := n2_; have HK := n3_; have HB := n4_; have HI0 := n5_; clear n0_ n1_ n2_ n3_ n4_ n5_; (try clear hb); (try clear hb2); (try clear hk); (try clear hi)))
 go_loopg [5] k (fun kq v5 w' => ∃ (x5_1 : Int) (x1001_1 : Int) (x1002_1 : Int) (x175000_1 : List (List Int)) (u175000 : Value), v5 = .int .i64 x5_1 ∧ Aside0 (spec_l1Cur_anyYard.l0 kq x5_1 s0_0 x1001_1 x1002_1 x175000_1 = some (r1, r2, r3)) ∧ Aside0 (kq ≤ k) ∧ Aside0 (Kd.S (Kd.slice 3 (Kd.int .i64)) 28 w' w.heap.size (fun _ => True) u175000 x175000_1) ∧ Aside0 (w'.heap[gb168]? = some (.cells #[(.slice none 0 0)] 26 (0, 0))) ∧ Aside0 (w'.heap[gb174]? = some (.cells #[u175000] 26 (0, 0))) ∧ Aside0 (IsS58 w0 w' g s0_0 x1001_1 x1002_1) ∧ Aside0 (KeepBut w w' g none) ∧ Aside0 (Below w0.heap.size w0 w'))
 case atStart => exact ⟨(0), (t179), (t180), (t169), (.slice Ao75 t169.length co75), (by first | rfl | (simp; done) | (simp [*]; done)), H', ⟨Nat.le_refl _⟩, ⟨sdl HO171⟩, ⟨bkl BK168⟩, ⟨bkl BK174⟩, ⟨by repeat (first | (with_reducible first | exact HI0.out | apply IsS58.alloc | apply IsS58.drewN | apply IsS58.drew | apply IsS58.set_1 | apply IsS58.set_2 | refine IsS58.far ?_ NB0_168.out _ | refine IsS58.far ?_ NB0_174.out _) | exact HI0.out)⟩, ⟨by repeat (first | (with_reducible first | exact HK.out | apply KeepBut.set_ | apply keep_drewN | apply keep_drew | apply keep_alloc | refine keep_far ?_ GW168.out _ | refine keep_far ?_ GW174.out _) | exact HK.out)⟩, ⟨by repeat (first | (with_reducible first | exact HB.out | apply below_alloc | apply pw_below_drewN | apply below_drew1 | refine below_set ?_ (IsS58.ge HI0.out) | refine below_set ?_ GE168.out | refine below_set ?_ GE174.out) | exact HB.out)⟩⟩
 clear H'
 try clear c1
 try clear p1
 try clear q1
 try clear hx1
 try clear c2
 try clear p2
 try clear hx2
 try clear hf2
 try clear c3
 try clear p3
 try clear q3
 try clear hx3
 try clear hf3
 try clear c4
 try clear c5
 try clear c5b0
 try clear c5b1
 try clear hx5
 try clear hf5
 try clear c6
 try clear c6b0
 try clear c7
 try clear c7b0
 try clear c9
 try clear p10
 try clear q10
 try clear c15
 try clear c16
 try clear c18
 try clear p18
 try clear q18
 try clear hx18
 try clear c25
 try clear c27
 try clear hx27
 try clear hf27
 try clear c32
 try clear c34
 try clear c34b0
 try clear c34b1
 try clear c35
 try clear c35b0
 try clear c36
 try clear c36b0
 try clear c37
 try clear p37
 try clear q37
 try clear hx37
 try clear hf37
 try clear c42
 try clear c43
 try clear c44
 try clear c50
 try clear hx50
 try clear hf50
 try clear c53
 try clear c55
 try clear c55b0
 try clear c55b1
 try clear c60
 try clear c61
 try clear c69
 try clear c71
 try clear c71b0
 try clear c71b1
 try clear c76
 try clear c77
 try clear hcz17_0
 try clear hcz31_0
 try clear hcz33_0
 try clear hcz44_0
 try clear hcz47_0
 try clear hcz52_0
 try clear hcz54_0
 try clear hcz62_0
 try clear hcz68_0
 try clear hcz70_0
 try clear hcz78_0
 try clear hfz17_0
 try clear hfz31_0
 try clear hfz33_0
 try clear hfz44_0
 try clear hfz47_0
 try clear hfz52_0
 try clear hfz54_0
 try clear hfz62_0
 try clear hfz68_0
 try clear hfz70_0
 try clear hfz78_0
 try clear hx181_0
 try clear hx27_0
 try clear hx37_0
 try clear hx50_0
 try clear p10
 try clear p181
 try clear p37
 try clear q10
 try clear q181
 try clear q37
 obtain ⟨x5_1, x1001_1, x1002_1, x175000_1, u175000, rfl, HA, HK1, HO_175000, BK168, BK174, HI0, HK, HB⟩ := hrel
 cases gk with
 | zero => exact absurd HA.out (by simp [spec_l1Cur_anyYard.l0])
 | succ k1 =>
  have H := HA.out
  clear HA
  simp only [spec_l1Cur_anyYard.l0] at H
  replace H := Option.bind_eq_some_iff.mp H
  obtain ⟨⟨t199, t200, t201⟩, A810, H⟩ := H
  replace H : (if (x175000_1.length : Int) < (wrap64 (6 + t199)) then (if x5_1 < 8 then (if x175000_1.length < 5864062014805 then (spec_l1Cur_anyYard.l0 k1 (wrap64 (x5_1 + 1)) s0_0 t200 t201 (x175000_1 ++ [(([wrap64 (40 + x5_1)] : List Int))])) else (none)) else (some (x175000_1, t200, t201))) else (some (x175000_1, t200, t201))) = some (r1, r2, r3) := H
  have A81 := Aside0.mk A810
  clear A810
  by_cases c82 : (x175000_1.length : Int) < (wrap64 (6 + t199))
  rotate_left
  ·rw [if_neg c82] at H
   have c82b0 : decide ((x175000_1.length : Int) < (wrap64 (6 + t199))) = false := decide_eq_false c82
   clear c82
   simp only [Option.some.injEq, Prod.mk.injEq] at H
   obtain ⟨rfl, rfl, rfl⟩ := H
   try go_wp2
   have n0_ := Aside0.mk (Kd.S_drew HO_175000.out)
   have n1_ := Aside0.mk (blk_drew BK168.out)
   have n2_ := Aside0.mk (blk_drew BK174.out)
   have n3_ := Aside0.mk (IsS58.drew HI0.out)
   have n4_ := Aside0.mk (keep_drew HK.out)
   have n5_ := Aside0.mk (below_drew1 HB.out)
   clear HO_175000 BK168 BK174 HI0 HK HB
   have HO_175000 := n0_
   have BK168 := n1_
   have BK174 := n2_
   have HI0 := n3_
   have HK := n4_
   have HB := n5_
   clear n0_ n1_ n2_ n3_ n4_ n5_
   obtain ⟨Ao106, co106, eo106⟩ := Kd.S_slice HO_175000.out
   (first | subst eo106 | (injection eo106 with f1_ f2_ f3_; have f4_ := f1_.symm; have f5_ := f3_.symm; clear f1_ f2_ f3_; subst f4_; subst f5_))
   refine start_ (n := 11) (S := fun w' => w'.cell? ⟨gb174, 0, none⟩ = some (.slice Ao106 x175000_1.length co106)) (ds := []) #[false, false, false, false, false, false, false, false, false, false, false] (by kernel_rfl) rfl rfl ((blk_cell BK174.out 0).trans rfl) (fun hHeld => ?_); refine with_tabW spec_l1Cur_anyYard.tab12 spec_l1Cur_anyYard.bits12 (fun HT_ HW_ => ?_)
   generalize wr.drew = w105 at HO_175000 BK168 BK174 HI0 HK HB hHeld ⊢
   refine pure_ (i := 0) (N := some 44) (v := ?_) (a' := ?_) #[true, false, false, false, false, false, false, false, false, false, false] rfl rfl (any_of HT_.out (by kernel_rfl)) (fun _ _ _ h => h) (Or.inl ⟨by rfl, ?_⟩) ?_ ?_
   rotate_left
   ·intro w'
    go_simp
    with_reducible rfl
   rotate_left
   ·simp only [putS]
    rfl
   refine pure_ (i := 3) (N := some 47) (v := ?_) (a' := ?_) #[true, false, false, true, false, false, false, false, false, false, false] rfl rfl (any_of HT_.out (by kernel_rfl)) (fun _ _ _ h => h) (Or.inl ⟨by rfl, ?_⟩) ?_ ?_
   rotate_left
   ·intro w'
    go_simp
    with_reducible rfl
   rotate_left
   ·simp only [putS]
    rfl
   refine take_ (i := 1) (N := some 45) (v := ?_) (a' := ?_) #[true, true, false, true, false, false, false, false, false, false, false] rfl rfl (take_ofW HT_.out HW_.out (by kernel_rfl)) (fun _ _ _ h => h) (Or.inl ⟨by rfl, ?_⟩) hHeld ?_ ?_
   rotate_left
   ·intro w' s0
    go_simp
    with_reducible rfl
   rotate_left
   ·simp only [putS]
    rfl
   refine pure_ (i := 2) (N := some 46) (v := ?_) (a' := ?_) #[true, true, true, true, false, false, false, false, false, false, false] rfl rfl (any_of HT_.out (by kernel_rfl)) (fun _ _ _ h => h) (Or.inl ⟨by rfl, ?_⟩) ?_ ?_
   rotate_left
   ·intro w'
    go_simp
    with_reducible rfl
   rotate_left
   ·simp only [putS]
    rfl
   refine one_ (i := 4) (N := some 48) #[true, true, true, true, true, false, false, false, false, false, false] rfl rfl (one_of HT_.out (by kernel_rfl)) (by decide) (fun K hK => ?_)
   refine goes_ Try.func44 (by kernel_rfl) rfl #[.pointer (some ⟨g, 0, none⟩), .int .i64 2] (by rfl) rfl rfl gmp ?_
   with_reducible refine (spec_l1Cur_pick.calls g s0_0 x1001_1 x1002_1 2 t199 t200 t201 w0 _ ?side1 ?side2 A81.out).mono ?_
   (case side1 => repeat (first | (with_reducible first | exact HI0.out | apply IsS58.alloc | apply IsS58.drewN | apply IsS58.drew | apply IsS58.set_1 | apply IsS58.set_2 | refine IsS58.far ?_ NB0_168.out _ | refine IsS58.far ?_ NB0_174.out _) | exact HI0.out))
   (case side2 => repeat (first | (with_reducible first | exact HB.out | apply below_alloc | apply pw_below_drewN | apply below_drew1 | refine below_set ?_ (IsS58.ge HI0.out) | refine below_set ?_ GE168.out | refine below_set ?_ GE174.out) | exact HB.out))
   rintro e w107 ⟨rfl, hi, hb, hk⟩
   refine ⟨_, rfl, ?_⟩
   have n0_ := Aside0.mk (Kd.S_mono (Kd.S_keep (IsS58.apartS (show IsS58 w0 _ g s0_0 x1001_1 x1002_1 from by repeat (first | (with_reducible first | exact HI0.out | apply IsS58.alloc | apply IsS58.drewN | apply IsS58.drew | apply IsS58.set_1 | apply IsS58.set_2 | refine IsS58.far ?_ NB0_168.out _ | refine IsS58.far ?_ NB0_174.out _) | exact HI0.out)) (sdl HO_175000) (by decide)) hk (fun _ h => h.2)) (fun _ h => h.1))
   have n1_ := Aside0.mk (KeepBut.blk hk (g' := gb168) (o := .cells #[.slice none 0 0] 26 (0, 0)) (bkl BK168) NB168_0.out (by simp))
   have n2_ := Aside0.mk (KeepBut.blk hk (g' := gb174) (o := .cells #[.slice Ao106 x175000_1.length co106] 26 (0, 0)) (bkl BK174) NB174_0.out (by simp))
   have n3_ := Aside0.mk (KeepBut.trans (by repeat (first | (with_reducible first | exact HK.out | apply KeepBut.set_ | apply keep_drewN | apply keep_drew | apply keep_alloc | refine keep_far ?_ GW168.out _ | refine keep_far ?_ GW174.out _) | exact HK.out)) hk (.inl rfl))
   have n4_ := Aside0.mk (hb)
   have n5_ := Aside0.mk (hi)
   clear HO_175000 BK168 BK174 HK HB HI0
   have HO_175000 := n0_
   have BK168 := n1_
   have BK174 := n2_
   have HK := n3_
   have HB := n4_
   have HI0 := n5_
   clear n0_ n1_ n2_ n3_ n4_ n5_
   (try clear hb)
   (try clear hb2)
   (try clear hk)
   (try clear hi)
   refine hK.out _ _ ((blk_cell BK174.out 0).trans rfl) (fun hHeld => ?_)
   clear hK K
   refine norm_ (a' := ?_) ?_ ?_
   rotate_left
   ·show Act.put _ (some 48) _ = _
    simp only [putS]
    rfl
   refine pure_ (i := 5) (N := some 49) (v := ?_) (a' := ?_) #[true, true, true, true, true, true, false, false, false, false, false] rfl rfl (any_of HT_.out (by kernel_rfl)) (fun _ _ _ h => h) (Or.inl ⟨by rfl, ?_⟩) ?_ ?_
   rotate_left
   ·intro w'
    go_simp
    with_reducible rfl
   rotate_left
   ·simp only [putS]
    rfl
   refine pure_ (i := 6) (N := some 50) (v := ?_) (a' := ?_) #[true, true, true, true, true, true, true, false, false, false, false] rfl rfl (any_of HT_.out (by kernel_rfl)) (fun _ _ _ h => h) (Or.inl ⟨by rfl, ?_⟩) ?_ ?_
   rotate_left
   ·intro w'
    go_simp
    with_reducible rfl
   rotate_left
   ·simp only [putS]
    rfl
   refine pure_ (i := 7) (N := some 51) (v := ?_) (a' := ?_) #[true, true, true, true, true, true, true, true, false, false, false] rfl rfl (any_of HT_.out (by kernel_rfl)) (fun _ _ _ h => h) (Or.inl ⟨by rfl, ?_⟩) ?_ ?_
   rotate_left
   ·intro w'
    go_simp
    with_reducible rfl
   rotate_left
   ·simp only [putS]
    rfl
   refine pure_ (i := 8) (N := some 52) (v := undef) (a' := ?_) #[true, true, true, true, true, true, true, true, true, false, false] rfl rfl (any_of HT_.out (by kernel_rfl)) (fun _ _ _ h => h) (Or.inr ⟨by rfl, rfl⟩) ?_ ?_
   rotate_left
   ·simp only [putS]
    rfl
   refine pure_ (i := 9) (N := some 53) (v := undef) (a' := ?_) #[true, true, true, true, true, true, true, true, true, true, false] rfl rfl (any_of HT_.out (by kernel_rfl)) (fun _ _ _ h => h) (Or.inr ⟨by rfl, rfl⟩) ?_ ?_
   rotate_left
   ·simp only [putS]
    rfl
   refine pure_ (i := 10) (N := some 54) (v := ?_) (a' := ?_) #[true, true, true, true, true, true, true, true, true, true, true] rfl rfl (any_of HT_.out (by kernel_rfl)) (fun _ _ _ h => h) (Or.inl ⟨by rfl, ?_⟩) ?_ ?_
   rotate_left
   ·intro w'
    go_simp
    with_reducible rfl
   rotate_left
   ·simp only [putS]
    rfl
   refine done_ (done_of HT_.out (by kernel_rfl)) ?_
   have hnb108 := NB174_168.out
   have hnc108 := NB168_174.out
   have hnb109 := NB174_0.out
   have hnc109 := NB0_174.out
   have hcz110_0 : w107.cell? ⟨gb174, 0, none⟩ = some (.slice Ao106 x175000_1.length co106) := (blk_cell BK174.out 0).trans rfl
   have hfz110_0 := blk_frozen BK174.out 0
   have hnb111 := NB168_0.out
   have hnc111 := NB0_168.out
   have hcz112_0 : w107.cell? ⟨gb168, 0, none⟩ = some (.slice none 0 0) := (blk_cell BK168.out 0).trans rfl
   have hfz112_0 := blk_frozen BK168.out 0
   try go_wp2
   refine bodyPost_ret (results_cell_row rfl _ _ gb168 26 #[.slice Ao106 x175000_1.length co106] (0, 0) _ rfl (by (with_reducible repeat (first | refine blk_drewN ?_ _ | refine blk_drew ?_ | refine blk_alloc ?_ _)); refine blk_put (cs := #[.slice none 0 0]) ?_ 0 _ rfl; (with_reducible repeat (first | refine blk_drewN ?_ _ | refine blk_drew ?_ | refine blk_alloc ?_ _)); exact BK168.out) Try.underlying26 rfl (by kernel_rfl)) rfl ?_
   exact ⟨_, by first | rfl | (simp [errW_none, errW_some] <;> rfl) | (simp [*, errW_none, errW_some] <;> rfl), by (with_reducible repeat (first | apply Kd.S_alloc | apply Kd.S_drewN | apply Kd.S_drew)); exact Kd.S_mono (Kd.S_far (p := ⟨gb168, 0, none⟩) (Kd.S_types HO_175000.out BK168.out (by decide)) (fun _ hk => hk.2) (.slice Ao106 x175000_1.length co106)) (fun _ hk => trivial), by repeat (first | (with_reducible first | exact HI0.out | apply IsS58.alloc | apply IsS58.drewN | apply IsS58.drew | apply IsS58.set_1 | apply IsS58.set_2 | refine IsS58.far ?_ NB0_168.out _ | refine IsS58.far ?_ NB0_174.out _) | exact HI0.out), by repeat (first | (with_reducible first | exact HB.out | apply below_alloc | apply pw_below_drewN | apply below_drew1 | refine below_set ?_ (IsS58.ge HI0.out) | refine below_set ?_ GE168.out | refine below_set ?_ GE174.out) | exact HB.out), by repeat (first | (with_reducible first | exact HK.out | apply KeepBut.set_ | apply keep_drewN | apply keep_drew | apply keep_alloc | refine keep_far ?_ GW168.out _ | refine keep_far ?_ GW174.out _) | exact HK.out)⟩
  rw [if_pos c82] at H
  have c82b0 : decide ((x175000_1.length : Int) < (wrap64 (6 + t199))) = true := decide_eq_true c82
  clear c82
  by_cases c83 : x5_1 < 8
  rotate_left
  ·rw [if_neg c83] at H
   have c83b0 : decide (x5_1 < 8) = false := decide_eq_false c83
   clear c83
   simp only [Option.some.injEq, Prod.mk.injEq] at H
   obtain ⟨rfl, rfl, rfl⟩ := H
   try go_wp2
   have n0_ := Aside0.mk (Kd.S_drew HO_175000.out)
   have n1_ := Aside0.mk (blk_drew BK168.out)
   have n2_ := Aside0.mk (blk_drew BK174.out)
   have n3_ := Aside0.mk (IsS58.drew HI0.out)
   have n4_ := Aside0.mk (keep_drew HK.out)
   have n5_ := Aside0.mk (below_drew1 HB.out)
   clear HO_175000 BK168 BK174 HI0 HK HB
   have HO_175000 := n0_
   have BK168 := n1_
   have BK174 := n2_
   have HI0 := n3_
   have HK := n4_
   have HB := n5_
   clear n0_ n1_ n2_ n3_ n4_ n5_
   obtain ⟨Ao98, co98, eo98⟩ := Kd.S_slice HO_175000.out
   (first | subst eo98 | (injection eo98 with f1_ f2_ f3_; have f4_ := f1_.symm; have f5_ := f3_.symm; clear f1_ f2_ f3_; subst f4_; subst f5_))
   refine start_ (n := 11) (S := fun w' => w'.cell? ⟨gb174, 0, none⟩ = some (.slice Ao98 x175000_1.length co98)) (ds := []) #[false, false, false, false, false, false, false, false, false, false, false] (by kernel_rfl) rfl rfl ((blk_cell BK174.out 0).trans rfl) (fun hHeld => ?_); refine with_tabW spec_l1Cur_anyYard.tab12 spec_l1Cur_anyYard.bits12 (fun HT_ HW_ => ?_)
   generalize wr.drew = w97 at HO_175000 BK168 BK174 HI0 HK HB hHeld ⊢
   refine pure_ (i := 0) (N := some 44) (v := ?_) (a' := ?_) #[true, false, false, false, false, false, false, false, false, false, false] rfl rfl (any_of HT_.out (by kernel_rfl)) (fun _ _ _ h => h) (Or.inl ⟨by rfl, ?_⟩) ?_ ?_
   rotate_left
   ·intro w'
    go_simp
    with_reducible rfl
   rotate_left
   ·simp only [putS]
    rfl
   refine pure_ (i := 3) (N := some 47) (v := ?_) (a' := ?_) #[true, false, false, true, false, false, false, false, false, false, false] rfl rfl (any_of HT_.out (by kernel_rfl)) (fun _ _ _ h => h) (Or.inl ⟨by rfl, ?_⟩) ?_ ?_
   rotate_left
   ·intro w'
    go_simp
    with_reducible rfl
   rotate_left
   ·simp only [putS]
    rfl
   refine take_ (i := 1) (N := some 45) (v := ?_) (a' := ?_) #[true, true, false, true, false, false, false, false, false, false, false] rfl rfl (take_ofW HT_.out HW_.out (by kernel_rfl)) (fun _ _ _ h => h) (Or.inl ⟨by rfl, ?_⟩) hHeld ?_ ?_
   rotate_left
   ·intro w' s0
    go_simp
    with_reducible rfl
   rotate_left
   ·simp only [putS]
    rfl
   refine pure_ (i := 2) (N := some 46) (v := ?_) (a' := ?_) #[true, true, true, true, false, false, false, false, false, false, false] rfl rfl (any_of HT_.out (by kernel_rfl)) (fun _ _ _ h => h) (Or.inl ⟨by rfl, ?_⟩) ?_ ?_
   rotate_left
   ·intro w'
    go_simp
    with_reducible rfl
   rotate_left
   ·simp only [putS]
    rfl
   refine one_ (i := 4) (N := some 48) #[true, true, true, true, true, false, false, false, false, false, false] rfl rfl (one_of HT_.out (by kernel_rfl)) (by decide) (fun K hK => ?_)
   refine goes_ Try.func44 (by kernel_rfl) rfl #[.pointer (some ⟨g, 0, none⟩), .int .i64 2] (by rfl) rfl rfl gmp ?_
   with_reducible refine (spec_l1Cur_pick.calls g s0_0 x1001_1 x1002_1 2 t199 t200 t201 w0 _ ?side1 ?side2 A81.out).mono ?_
   (case side1 => repeat (first | (with_reducible first | exact HI0.out | apply IsS58.alloc | apply IsS58.drewN | apply IsS58.drew | apply IsS58.set_1 | apply IsS58.set_2 | refine IsS58.far ?_ NB0_168.out _ | refine IsS58.far ?_ NB0_174.out _) | exact HI0.out))
   (case side2 => repeat (first | (with_reducible first | exact HB.out | apply below_alloc | apply pw_below_drewN | apply below_drew1 | refine below_set ?_ (IsS58.ge HI0.out) | refine below_set ?_ GE168.out | refine below_set ?_ GE174.out) | exact HB.out))
   rintro e w99 ⟨rfl, hi, hb, hk⟩
   refine ⟨_, rfl, ?_⟩
   have n0_ := Aside0.mk (Kd.S_mono (Kd.S_keep (IsS58.apartS (show IsS58 w0 _ g s0_0 x1001_1 x1002_1 from by repeat (first | (with_reducible first | exact HI0.out | apply IsS58.alloc | apply IsS58.drewN | apply IsS58.drew | apply IsS58.set_1 | apply IsS58.set_2 | refine IsS58.far ?_ NB0_168.out _ | refine IsS58.far ?_ NB0_174.out _) | exact HI0.out)) (sdl HO_175000) (by decide)) hk (fun _ h => h.2)) (fun _ h => h.1))
   have n1_ := Aside0.mk (KeepBut.blk hk (g' := gb168) (o := .cells #[.slice none 0 0] 26 (0, 0)) (bkl BK168) NB168_0.out (by simp))
   have n2_ := Aside0.mk (KeepBut.blk hk (g' := gb174) (o := .cells #[.slice Ao98 x175000_1.length co98] 26 (0, 0)) (bkl BK174) NB174_0.out (by simp))
   have n3_ := Aside0.mk (KeepBut.trans (by repeat (first | (with_reducible first | exact HK.out | apply KeepBut.set_ | apply keep_drewN | apply keep_drew | apply keep_alloc | refine keep_far ?_ GW168.out _ | refine keep_far ?_ GW174.out _) | exact HK.out)) hk (.inl rfl))
   have n4_ := Aside0.mk (hb)
   have n5_ := Aside0.mk (hi)
   clear HO_175000 BK168 BK174 HK HB HI0
   have HO_175000 := n0_
   have BK168 := n1_
   have BK174 := n2_
   have HK := n3_
   have HB := n4_
   have HI0 := n5_
   clear n0_ n1_ n2_ n3_ n4_ n5_
   (try clear hb)
   (try clear hb2)
   (try clear hk)
   (try clear hi)
   refine hK.out _ _ ((blk_cell BK174.out 0).trans rfl) (fun hHeld => ?_)
   clear hK K
   refine norm_ (a' := ?_) ?_ ?_
   rotate_left
   ·show Act.put _ (some 48) _ = _
    simp only [putS]
    rfl
   refine pure_ (i := 5) (N := some 49) (v := ?_) (a' := ?_) #[true, true, true, true, true, true, false, false, false, false, false] rfl rfl (any_of HT_.out (by kernel_rfl)) (fun _ _ _ h => h) (Or.inl ⟨by rfl, ?_⟩) ?_ ?_
   rotate_left
   ·intro w'
    go_simp
    with_reducible rfl
   rotate_left
   ·simp only [putS]
    rfl
   refine pure_ (i := 6) (N := some 50) (v := ?_) (a' := ?_) #[true, true, true, true, true, true, true, false, false, false, false] rfl rfl (any_of HT_.out (by kernel_rfl)) (fun _ _ _ h => h) (Or.inl ⟨by rfl, ?_⟩) ?_ ?_
   rotate_left
   ·intro w'
    go_simp
    with_reducible rfl
   rotate_left
   ·simp only [putS]
    rfl
   refine pure_ (i := 7) (N := some 51) (v := ?_) (a' := ?_) #[true, true, true, true, true, true, true, true, false, false, false] rfl rfl (any_of HT_.out (by kernel_rfl)) (fun _ _ _ h => h) (Or.inl ⟨by rfl, ?_⟩) ?_ ?_
   rotate_left
   ·intro w'
    go_simp
    with_reducible rfl
   rotate_left
   ·simp only [putS]
    rfl
   refine pure_ (i := 8) (N := some 52) (v := ?_) (a' := ?_) #[true, true, true, true, true, true, true, true, true, false, false] rfl rfl (any_of HT_.out (by kernel_rfl)) (fun _ _ _ h => h) (Or.inl ⟨by rfl, ?_⟩) ?_ ?_
   rotate_left
   ·intro w'
    go_simp
    with_reducible rfl
   rotate_left
   ·simp only [putS]
    rfl
   refine pure_ (i := 9) (N := some 53) (v := ?_) (a' := ?_) #[true, true, true, true, true, true, true, true, true, true, false] rfl rfl (any_of HT_.out (by kernel_rfl)) (fun _ _ _ h => h) (Or.inl ⟨by rfl, ?_⟩) ?_ ?_
   rotate_left
   ·intro w'
    go_simp
    with_reducible rfl
   rotate_left
   ·simp only [putS]
    rfl
   refine pure_ (i := 10) (N := some 54) (v := ?_) (a' := ?_) #[true, true, true, true, true, true, true, true, true, true, true] rfl rfl (any_of HT_.out (by kernel_rfl)) (fun _ _ _ h => h) (Or.inl ⟨by rfl, ?_⟩) ?_ ?_
   rotate_left
   ·intro w'
    go_simp
    with_reducible rfl
   rotate_left
   ·simp only [putS]
    rfl
   refine done_ (done_of HT_.out (by kernel_rfl)) ?_
   have hnb100 := NB174_168.out
   have hnc100 := NB168_174.out
   have hnb101 := NB174_0.out
   have hnc101 := NB0_174.out
   have hcz102_0 : w99.cell? ⟨gb174, 0, none⟩ = some (.slice Ao98 x175000_1.length co98) := (blk_cell BK174.out 0).trans rfl
   have hfz102_0 := blk_frozen BK174.out 0
   have hnb103 := NB168_0.out
   have hnc103 := NB0_168.out
   have hcz104_0 : w99.cell? ⟨gb168, 0, none⟩ = some (.slice none 0 0) := (blk_cell BK168.out 0).trans rfl
   have hfz104_0 := blk_frozen BK168.out 0
   try go_wp2
   refine bodyPost_ret (results_cell_row rfl _ _ gb168 26 #[.slice Ao98 x175000_1.length co98] (0, 0) _ rfl (by (with_reducible repeat (first | refine blk_drewN ?_ _ | refine blk_drew ?_ | refine blk_alloc ?_ _)); refine blk_put (cs := #[.slice none 0 0]) ?_ 0 _ rfl; (with_reducible repeat (first | refine blk_drewN ?_ _ | refine blk_drew ?_ | refine blk_alloc ?_ _)); exact BK168.out) Try.underlying26 rfl (by kernel_rfl)) rfl ?_
   exact ⟨_, by first | rfl | (simp [errW_none, errW_some] <;> rfl) | (simp [*, errW_none, errW_some] <;> rfl), by (with_reducible repeat (first | apply Kd.S_alloc | apply Kd.S_drewN | apply Kd.S_drew)); exact Kd.S_mono (Kd.S_far (p := ⟨gb168, 0, none⟩) (Kd.S_types HO_175000.out BK168.out (by decide)) (fun _ hk => hk.2) (.slice Ao98 x175000_1.length co98)) (fun _ hk => trivial), by repeat (first | (with_reducible first | exact HI0.out | apply IsS58.alloc | apply IsS58.drewN | apply IsS58.drew | apply IsS58.set_1 | apply IsS58.set_2 | refine IsS58.far ?_ NB0_168.out _ | refine IsS58.far ?_ NB0_174.out _) | exact HI0.out), by repeat (first | (with_reducible first | exact HB.out | apply below_alloc | apply pw_below_drewN | apply below_drew1 | refine below_set ?_ (IsS58.ge HI0.out) | refine below_set ?_ GE168.out | refine below_set ?_ GE174.out) | exact HB.out), by repeat (first | (with_reducible first | exact HK.out | apply KeepBut.set_ | apply keep_drewN | apply keep_drew | apply keep_alloc | refine keep_far ?_ GW168.out _ | refine keep_far ?_ GW174.out _) | exact HK.out)⟩
  rw [if_pos c83] at H
  have c83b0 : decide (x5_1 < 8) = true := decide_eq_true c83
  clear c83
  obtain ⟨y202, hy202⟩ : ∃ y_ : List Int, y_ = (([wrap64 (40 + x5_1)] : List Int)) := ⟨_, rfl⟩
  replace H : (if x175000_1.length < 5864062014805 then (spec_l1Cur_anyYard.l0 k1 (wrap64 (x5_1 + 1)) s0_0 t200 t201 (x175000_1 ++ [y202])) else (none)) = some (r1, r2, r3) := by first | (rw [hy202]; with_reducible exact H) | (have H2_ := (Option.bind_some _ _).symm.trans H; rw [hy202]; with_reducible exact H2_) | (have H2_ := (Option.bind_some _ _).symm.trans H; with_reducible exact H2_) | with_reducible exact H | (rw [hy202]; exact H) | exact H
  have Ny202 := Aside0.mk hy202
  clear hy202
  by_cases c84 : x175000_1.length < 5864062014805
  rotate_left
  ·rw [if_neg c84] at H
   exact absurd H (by simp)
  rw [if_pos c84] at H
  have LMc84 := Aside0.mk c84
  clear c84
  obtain ⟨y205, hy205⟩ : ∃ y_ : List (List Int), y_ = (x175000_1 ++ [y202]) := ⟨_, rfl⟩
  replace H : (spec_l1Cur_anyYard.l0 k1 (wrap64 (x5_1 + 1)) s0_0 t200 t201 y205) = some (r1, r2, r3) := by first | (rw [hy205]; with_reducible exact H) | (have H2_ := (Option.bind_some _ _).symm.trans H; rw [hy205]; with_reducible exact H2_) | (have H2_ := (Option.bind_some _ _).symm.trans H; with_reducible exact H2_) | with_reducible exact H | (rw [hy205]; exact H) | exact H
  have Ny205 := Aside0.mk hy205
  clear hy205
  have H' := Aside0.mk H
  clear H
  try go_wp2
  have n0_ := Aside0.mk (Kd.S_drew HO_175000.out)
  have n1_ := Aside0.mk (blk_drew BK168.out)
  have n2_ := Aside0.mk (blk_drew BK174.out)
  have n3_ := Aside0.mk (IsS58.drew HI0.out)
  have n4_ := Aside0.mk (keep_drew HK.out)
  have n5_ := Aside0.mk (below_drew1 HB.out)
  clear HO_175000 BK168 BK174 HI0 HK HB
  have HO_175000 := n0_
  have BK168 := n1_
  have BK174 := n2_
  have HI0 := n3_
  have HK := n4_
  have HB := n5_
  clear n0_ n1_ n2_ n3_ n4_ n5_
  obtain ⟨Ao86, co86, eo86⟩ := Kd.S_slice HO_175000.out
  (first | subst eo86 | (injection eo86 with f1_ f2_ f3_; have f4_ := f1_.symm; have f5_ := f3_.symm; clear f1_ f2_ f3_; subst f4_; subst f5_))
  refine start_ (n := 11) (S := fun w' => w'.cell? ⟨gb174, 0, none⟩ = some (.slice Ao86 x175000_1.length co86)) (ds := []) #[false, false, false, false, false, false, false, false, false, false, false] (by kernel_rfl) rfl rfl ((blk_cell BK174.out 0).trans rfl) (fun hHeld => ?_); refine with_tabW spec_l1Cur_anyYard.tab12 spec_l1Cur_anyYard.bits12 (fun HT_ HW_ => ?_)
  generalize wr.drew = w85 at HO_175000 BK168 BK174 HI0 HK HB hHeld ⊢
  refine pure_ (i := 0) (N := some 44) (v := ?_) (a' := ?_) #[true, false, false, false, false, false, false, false, false, false, false] rfl rfl (any_of HT_.out (by kernel_rfl)) (fun _ _ _ h => h) (Or.inl ⟨by rfl, ?_⟩) ?_ ?_
  rotate_left
  ·intro w'
   go_simp
   with_reducible rfl
  rotate_left
  ·simp only [putS]
   rfl
  refine pure_ (i := 3) (N := some 47) (v := ?_) (a' := ?_) #[true, false, false, true, false, false, false, false, false, false, false] rfl rfl (any_of HT_.out (by kernel_rfl)) (fun _ _ _ h => h) (Or.inl ⟨by rfl, ?_⟩) ?_ ?_
  rotate_left
  ·intro w'
   go_simp
   with_reducible rfl
  rotate_left
  ·simp only [putS]
   rfl
  refine take_ (i := 1) (N := some 45) (v := ?_) (a' := ?_) #[true, true, false, true, false, false, false, false, false, false, false] rfl rfl (take_ofW HT_.out HW_.out (by kernel_rfl)) (fun _ _ _ h => h) (Or.inl ⟨by rfl, ?_⟩) hHeld ?_ ?_
  rotate_left
  ·intro w' s0
   go_simp
   with_reducible rfl
  rotate_left
  ·simp only [putS]
   rfl
  refine pure_ (i := 2) (N := some 46) (v := ?_) (a' := ?_) #[true, true, true, true, false, false, false, false, false, false, false] rfl rfl (any_of HT_.out (by kernel_rfl)) (fun _ _ _ h => h) (Or.inl ⟨by rfl, ?_⟩) ?_ ?_
  rotate_left
  ·intro w'
   go_simp
   with_reducible rfl
  rotate_left
  ·simp only [putS]
   rfl
  refine one_ (i := 4) (N := some 48) #[true, true, true, true, true, false, false, false, false, false, false] rfl rfl (one_of HT_.out (by kernel_rfl)) (by decide) (fun K hK => ?_)
  refine goes_ Try.func44 (by kernel_rfl) rfl #[.pointer (some ⟨g, 0, none⟩), .int .i64 2] (by rfl) rfl rfl gmp ?_
  with_reducible refine (spec_l1Cur_pick.calls g s0_0 x1001_1 x1002_1 2 t199 t200 t201 w0 _ ?side1 ?side2 A81.out).mono ?_
  (case side1 => repeat (first | (with_reducible first | exact HI0.out | apply IsS58.alloc | apply IsS58.drewN | apply IsS58.drew | apply IsS58.set_1 | apply IsS58.set_2 | refine IsS58.far ?_ NB0_168.out _ | refine IsS58.far ?_ NB0_174.out _) | exact HI0.out))
  (case side2 => repeat (first | (with_reducible first | exact HB.out | apply below_alloc | apply pw_below_drewN | apply below_drew1 | refine below_set ?_ (IsS58.ge HI0.out) | refine below_set ?_ GE168.out | refine below_set ?_ GE174.out) | exact HB.out))
  rintro e w87 ⟨rfl, hi, hb, hk⟩
  refine ⟨_, rfl, ?_⟩
  have n0_ := Aside0.mk (Kd.S_mono (Kd.S_keep (IsS58.apartS (show IsS58 w0 _ g s0_0 x1001_1 x1002_1 from by repeat (first | (with_reducible first | exact HI0.out | apply IsS58.alloc | apply IsS58.drewN | apply IsS58.drew | apply IsS58.set_1 | apply IsS58.set_2 | refine IsS58.far ?_ NB0_168.out _ | refine IsS58.far ?_ NB0_174.out _) | exact HI0.out)) (sdl HO_175000) (by decide)) hk (fun _ h => h.2)) (fun _ h => h.1))
  have n1_ := Aside0.mk (KeepBut.blk hk (g' := gb168) (o := .cells #[.slice none 0 0] 26 (0, 0)) (bkl BK168) NB168_0.out (by simp))
  have n2_ := Aside0.mk (KeepBut.blk hk (g' := gb174) (o := .cells #[.slice Ao86 x175000_1.length co86] 26 (0, 0)) (bkl BK174) NB174_0.out (by simp))
  have n3_ := Aside0.mk (KeepBut.trans (by repeat (first | (with_reducible first | exact HK.out | apply KeepBut.set_ | apply keep_drewN | apply keep_drew | apply keep_alloc | refine keep_far ?_ GW168.out _ | refine keep_far ?_ GW174.out _) | exact HK.out)) hk (.inl rfl))
  have n4_ := Aside0.mk (hb)
  have n5_ := Aside0.mk (hi)
  clear HO_175000 BK168 BK174 HK HB HI0
  have HO_175000 := n0_
  have BK168 := n1_
  have BK174 := n2_
  have HK := n3_
  have HB := n4_
  have HI0 := n5_
  clear n0_ n1_ n2_ n3_ n4_ n5_
  (try clear hb)
  (try clear hb2)
  (try clear hk)
  (try clear hi)
  refine hK.out _ _ ((blk_cell BK174.out 0).trans rfl) (fun hHeld => ?_)
  clear hK K
  refine norm_ (a' := ?_) ?_ ?_
  rotate_left
  ·show Act.put _ (some 48) _ = _
   simp only [putS]
   rfl
  refine pure_ (i := 5) (N := some 49) (v := ?_) (a' := ?_) #[true, true, true, true, true, true, false, false, false, false, false] rfl rfl (any_of HT_.out (by kernel_rfl)) (fun _ _ _ h => h) (Or.inl ⟨by rfl, ?_⟩) ?_ ?_
  rotate_left
  ·intro w'
   go_simp
   with_reducible rfl
  rotate_left
  ·simp only [putS]
   rfl
  refine pure_ (i := 6) (N := some 50) (v := ?_) (a' := ?_) #[true, true, true, true, true, true, true, false, false, false, false] rfl rfl (any_of HT_.out (by kernel_rfl)) (fun _ _ _ h => h) (Or.inl ⟨by rfl, ?_⟩) ?_ ?_
  rotate_left
  ·intro w'
   go_simp
   with_reducible rfl
  rotate_left
  ·simp only [putS]
   rfl
  refine pure_ (i := 7) (N := some 51) (v := ?_) (a' := ?_) #[true, true, true, true, true, true, true, true, false, false, false] rfl rfl (any_of HT_.out (by kernel_rfl)) (fun _ _ _ h => h) (Or.inl ⟨by rfl, ?_⟩) ?_ ?_
  rotate_left
  ·intro w'
   go_simp
   with_reducible rfl
  rotate_left
  ·simp only [putS]
   rfl
  refine pure_ (i := 8) (N := some 52) (v := ?_) (a' := ?_) #[true, true, true, true, true, true, true, true, true, false, false] rfl rfl (any_of HT_.out (by kernel_rfl)) (fun _ _ _ h => h) (Or.inl ⟨by rfl, ?_⟩) ?_ ?_
  rotate_left
  ·intro w'
   go_simp
   with_reducible rfl
  rotate_left
  ·simp only [putS]
   rfl
  refine pure_ (i := 9) (N := some 53) (v := ?_) (a' := ?_) #[true, true, true, true, true, true, true, true, true, true, false] rfl rfl (any_of HT_.out (by kernel_rfl)) (fun _ _ _ h => h) (Or.inl ⟨by rfl, ?_⟩) ?_ ?_
  rotate_left
  ·intro w'
   go_simp
   with_reducible rfl
  rotate_left
  ·simp only [putS]
   rfl
  refine pure_ (i := 10) (N := some 54) (v := ?_) (a' := ?_) #[true, true, true, true, true, true, true, true, true, true, true] rfl rfl (any_of HT_.out (by kernel_rfl)) (fun _ _ _ h => h) (Or.inl ⟨by rfl, ?_⟩) ?_ ?_
  rotate_left
  ·intro w'
   go_simp
   with_reducible rfl
  rotate_left
  ·simp only [putS]
   rfl
  refine done_ (done_of HT_.out (by kernel_rfl)) ?_
  have hnb88 := NB174_168.out
  have hnc88 := NB168_174.out
  have hnb89 := NB174_0.out
  have hnc89 := NB0_174.out
  have hcz90_0 : w87.cell? ⟨gb174, 0, none⟩ = some (.slice Ao86 x175000_1.length co86) := (blk_cell BK174.out 0).trans rfl
  have hfz90_0 := blk_frozen BK174.out 0
  try go_wp2_with (first | ((with_reducible refine gate_dst (N := 61) rfl ?_); refine Kd.R_lit (Kd.int .i64) _ 3 ?hg (N := 61) ?hd (xs := ([wrap64 (40 + x5_1)] : List Int)) (inner := [.int .i64 (wrap64 (40 + x5_1))]) (ok := fun _ => True) (okp := fun _ => True) ?hr ?hp (fun _ hk => hk) trivial (Below.refl _ _) (Nat.le_refl _) (by simp) ?_; (case hd => rfl); (case hg => rfl); (case hr => first | (go_simp; done) | (go_simp; rfl)); (case hp => exact (Reps.one (show Kd.M (Kd.int .i64) _ _ _ (wrap64 (40 + x5_1)) [.int .i64 (wrap64 (40 + x5_1))] from rfl) (Reps.none _ _))); intro v203 w91 ho92 hb hg_ hnew_; clear hg_ hnew_; (first | rw [← Ny202.out] at ho92 | (simp only [Int.reduceToNat] at ho92; rw [← Ny202.out] at ho92)); have n0_ := Aside0.mk (Kd.S_elder' (sdl HO_175000) (Kd.R_base ho92) hb); have n1_ := Aside0.mk (Kd.R_lower ho92 (keep_size (w := w) (g := g) (row := none) (by repeat (first | (with_reducible first | exact HK.out | apply KeepBut.set_ | apply keep_drewN | apply keep_drew | apply keep_alloc | refine keep_far ?_ GW168.out _ | refine keep_far ?_ GW174.out _) | exact HK.out)))); have n2_ := Aside0.mk (blk_below (g := gb168) (o := .cells #[.slice none 0 0] 26 (0, 0)) (bkl BK168) hb); have n3_ := Aside0.mk (blk_below (g := gb174) (o := .cells #[.slice Ao86 x175000_1.length co86] 26 (0, 0)) (bkl BK174) hb); have n4_ := Aside0.mk (IsS58.below (by repeat (first | (with_reducible first | exact HI0.out | apply IsS58.alloc | apply IsS58.drewN | apply IsS58.drew | apply IsS58.set_1 | apply IsS58.set_2 | refine IsS58.far ?_ NB0_168.out _ | refine IsS58.far ?_ NB0_174.out _) | exact HI0.out)) hb); have n5_ := Aside0.mk (KeepBut.trans (by repeat (first | (with_reducible first | exact HK.out | apply KeepBut.set_ | apply keep_drewN | apply keep_drew | apply keep_alloc | refine keep_far ?_ GW168.out _ | refine keep_far ?_ GW174.out _) | exact HK.out)) (KeepBut.of_below hb g none) (.inl rfl)); have n6_ := Aside0.mk (below_step (by repeat (first | (with_reducible first | exact HB.out | apply below_alloc | apply pw_below_drewN | apply below_drew1 | refine below_set ?_ (IsS58.ge HI0.out) | refine below_set ?_ GE168.out | refine below_set ?_ GE174.out) | exact HB.out)) hb); clear HO_175000; clear BK168; clear BK174; clear HI0; clear HK; clear HB; have HO_175000 := n0_; have HO204 := n1_; have BK168 := n2_; have BK174 := n3_; have HI0 := n4_; have HK := n5_; have HB := n6_; clear n0_ n1_ n2_ n3_ n4_ n5_ n6_; clear hb ho92; obtain ⟨Ao94, co94, eo94⟩ := Kd.R_slice HO204.out; subst eo94) | ((with_reducible refine gate_builtin (b := .append) (xs := #[.tmp 58, .tmp 62]) rfl ?_); at_builtin; refine Kd.S_append (Kd.slice 3 (Kd.int .i64)) w.heap.size rfl (.tmp 58) (.tmp 62) 24 28 (.slice none 0 0) 24 rfl Try.underlying24 info28 rfl (by decide) (by omega) (.slice Ao86 x175000_1.length co86) x175000_1 y202 [.slice Ao94 y202.length co94] (fun _ => True) (fun k_ => some k_ = (.slice Ao94 y202.length co94 : Value).ownBlock) rfl rfl ?aP (fun k_ hk_ => ((Kd.R_mono (ok' := fun k_ => ((fun _ => True)) k_ ∧ some k_ ≠ (.slice Ao86 x175000_1.length co86 : Value).ownBlock) (Kd.R_apart' (HO204.out) (Kd.S_typed HO_175000.out) (by decide)) (fun k_ hk => ⟨trivial, hk.2⟩))).1 k_ hk_.symm) ?aF ?aO (Below.refl _ _) ?aS ?aL ?_; (case aP => exact Kd.M_row (Kd.R_mono (Kd.R_tight rfl (Kd.R_mono (ok' := fun k_ => ((fun _ => True)) k_ ∧ some k_ ≠ (.slice Ao86 x175000_1.length co86 : Value).ownBlock) (Kd.R_apart' (HO204.out) (Kd.S_typed HO_175000.out) (by decide)) (fun k_ hk => ⟨trivial, hk.2⟩))) (fun _ h_ => h_))); (case aF => exact (fun _ _ => trivial)); (case aO => exact (by (with_reducible repeat (first | apply Kd.S_alloc | apply Kd.S_drewN | apply Kd.S_drew)); exact Kd.S_mono HO_175000.out (fun k_ hk => ⟨trivial, fun e_ => hk.2 e_⟩))); (case aS => exact (keep_size (w := w) (g := g) (row := none) (by repeat (first | (with_reducible first | exact HK.out | apply KeepBut.set_ | apply keep_drewN | apply keep_drew | apply keep_alloc | refine keep_far ?_ GW168.out _ | refine keep_far ?_ GW174.out _) | exact HK.out)))); (case aL => have := LMc84.out; omega); intro v206 w93 ho hb hg hat; rw [← Ny205.out] at ho; have n0_ := Aside0.mk (blk_grown (g := gb168) (o := .cells #[.slice none 0 0] 26 (0, 0)) (bkl BK168) hg (Kd.S_ne HO_175000.out BK168.out (by decide))); have n1_ := Aside0.mk (blk_grown (g := gb174) (o := .cells #[.slice Ao86 x175000_1.length co86] 26 (0, 0)) (bkl BK174) hg (Kd.S_ne HO_175000.out BK174.out (by decide))); have n2_ := Aside0.mk (IsS58.grown (by repeat (first | (with_reducible first | exact HI0.out | apply IsS58.alloc | apply IsS58.drewN | apply IsS58.drew | apply IsS58.set_1 | apply IsS58.set_2 | refine IsS58.far ?_ NB0_168.out _ | refine IsS58.far ?_ NB0_174.out _) | exact HI0.out)) hg (IsS58.own_neS HI0.out HO_175000.out (by decide))); have n3_ := Aside0.mk (below_weaken (by repeat (first | (with_reducible first | exact HB.out | apply below_alloc | apply pw_below_drewN | apply below_drew1 | refine below_set ?_ (IsS58.ge HI0.out) | refine below_set ?_ GE168.out | refine below_set ?_ GE174.out) | exact HB.out)) HL.out hb); have n4_ := Aside0.mk (KeepBut.trans (by repeat (first | (with_reducible first | exact HK.out | apply KeepBut.set_ | apply keep_drewN | apply keep_drew | apply keep_alloc | refine keep_far ?_ GW168.out _ | refine keep_far ?_ GW174.out _) | exact HK.out)) (KeepBut.of_grown hg g) (Kd.S_base2 HO_175000.out)); have n5_ := Aside0.mk (ho); clear BK168; clear BK174; clear HI0; clear HB; clear HK; clear HO_175000; clear HO204; have BK168 := n0_; have BK174 := n1_; have HI0 := n2_; have HB := n3_; have HK := n4_; have HO207 := n5_; clear n0_ n1_ n2_ n3_ n4_ n5_; clear ho hb hg hat; obtain ⟨Ao95, co95, eo95⟩ := Kd.S_slice HO207.out; subst eo95; have hcz96_0 : w93.cell? ⟨gb174, 0, none⟩ = some (.slice Ao86 x175000_1.length co86) := (blk_cell BK174.out 0).trans rfl; have hfz96_0 := blk_frozen BK174.out 0))
  go_roundg k1
  case measure => have := HK1.out; omega
  case rel => exact ⟨(wrap64 (x5_1 + 1)), (t200), (t201), (y205), (.slice Ao95 y205.length co95), (by first | rfl | (simp; done) | (simp [*]; done)), H', ⟨by have := HK1.out; omega⟩, ⟨by (with_reducible repeat (first | apply Kd.S_alloc | apply Kd.S_drewN | apply Kd.S_drew)); exact Kd.S_mono (Kd.S_far (p := ⟨gb174, 0, none⟩) (Kd.S_types HO207.out BK174.out (by decide)) (fun _ hk => hk.2) (.slice Ao95 y205.length co95)) (fun _ hk => trivial)⟩, ⟨by (with_reducible repeat (first | refine blk_drewN ?_ _ | refine blk_drew ?_ | refine blk_alloc ?_ _)); refine blk_far ?_ NB168_174.out _; (with_reducible repeat (first | refine blk_drewN ?_ _ | refine blk_drew ?_ | refine blk_alloc ?_ _)); exact BK168.out⟩, ⟨by (with_reducible repeat (first | refine blk_drewN ?_ _ | refine blk_drew ?_ | refine blk_alloc ?_ _)); refine blk_put (cs := #[.slice Ao86 x175000_1.length co86]) ?_ 0 _ rfl; (with_reducible repeat (first | refine blk_drewN ?_ _ | refine blk_drew ?_ | refine blk_alloc ?_ _)); exact BK174.out⟩, ⟨by repeat (first | (with_reducible first | exact HI0.out | apply IsS58.alloc | apply IsS58.drewN | apply IsS58.drew | apply IsS58.set_1 | apply IsS58.set_2 | refine IsS58.far ?_ NB0_168.out _ | refine IsS58.far ?_ NB0_174.out _) | exact HI0.out)⟩, ⟨by repeat (first | (with_reducible first | exact HK.out | apply KeepBut.set_ | apply keep_drewN | apply keep_drew | apply keep_alloc | refine keep_far ?_ GW168.out _ | refine keep_far ?_ GW174.out _) | exact HK.out)⟩, ⟨by repeat (first | (with_reducible first | exact HB.out | apply below_alloc | apply pw_below_drewN | apply below_drew1 | refine below_set ?_ (IsS58.ge HI0.out) | refine below_set ?_ GE168.out | refine below_set ?_ GE174.out) | exact HB.out)⟩⟩
end Go.Proofs.Ytmggkimmnekhcaa.P
