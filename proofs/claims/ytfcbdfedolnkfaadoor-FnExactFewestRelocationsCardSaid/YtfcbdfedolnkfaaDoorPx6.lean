-- Written by a program of this session over the translation (a variant of the printer, see wip/gen); Lean checks it.
import Derived.Test.YtfcbdfedolnkfaaDoorPx0
import Derived.Test.YtfcbdfedolnkfaaDoorPx1
import Derived.Test.YtfcbdfedolnkfaaDoorPx3
import Derived.Test.YtfcbdfedolnkfaaDoorPx5
namespace Go.Proofs.YtfcbdfedolnkfaaDoor.P
open Go.RowKit Go.Proofs.YtfcbdfedolnkfaaDoorW.PrintWords Go.Proofs.YtfcbdfedolnkfaaDoorW.PrintLast Go.Proofs.YtfcbdfedolnkfaaDoorW.PrintMore
attribute [local go_sem] Go.Proofs.YtfcbdfedolnkfaaDoor.V.isSome_setCell max2_int min2_int max_two min_two max_three min_three max_four min_four   -- for this text's walks alone
set_option linter.unusedVariables false
set_option linter.unusedSimpArgs false

/-! ### spec_l6Search: function 34 -/
mutual
def spec_l6Search.l0 : Nat → List Int → Int → Int → Int → List (List Int) → Option ((List (S47)) × Bool)
 | 0, _, _, _, _, _ => none
 | k + 1, x1, x2, x10, x16, x182000 => if x16 < (x182000.length : Int) then (spec_l6Search.j1 k x1 x2 x10 x16 (decide (x2 > 0)) x182000) else (spec_l6Search.j1 k x1 x2 x10 x16 false x182000)
def spec_l6Search.j1 : Nat → List Int → Int → Int → Int → Bool → List (List Int) → Option ((List (S47)) × Bool)
 | 0, _, _, _, _, _, _ => none
 | k + 1, x1, x2, x10, x16, x92, x182000 => if x92 = true then ((spec_l6Step.f k x182000 x10 x16).bind fun bt217 => (if bt217.2 = true then ((spec_l6Search.f k bt217.1 x1 (wrap64 (x2 - 1))).bind fun bt222 => (if bt222.2 = true then ((some (([(⟨x10, x16⟩ : S47)] : List (S47)) : List (S47))).bind fun y226 => (if y226.length + bt222.1.length < 8796093022208 then (some ((y226 ++ bt222.1), true)) else (none))) else (spec_l6Search.l0 k x1 x2 x10 (wrap64 (x16 + 1)) x182000))) else (spec_l6Search.l0 k x1 x2 x10 (wrap64 (x16 + 1)) x182000))) else (some ((([] : List (S47))), false))
def spec_l6Search.f : Nat → List (List Int) → List Int → Int → Option ((List (S47)) × Bool)
 | 0, _, _, _ => none
 | k + 1, l0_0, l1, a2 => if (l1.length : Int) = 0 then (some ((([] : List (S47))), true)) else ((spec_l6Bound.f k l0_0 l1).bind fun t185 => (if t185 > a2 then (some ((([] : List (S47))), false)) else (if 0 < (l1.length : Int) then ((spec_l5Find.f k l0_0 (rd l1 0)).bind fun bt190 => (if 0 ≤ bt190.1 then (if bt190.1 < (l0_0.length : Int) then (if 0 ≤ (wrap64 (((rd_L1 l0_0 bt190.1).length : Int) - 1)) then (if (wrap64 (((rd_L1 l0_0 bt190.1).length : Int) - 1)) < ((rd_L1 l0_0 bt190.1).length : Int) then (if bt190.2 = (wrap64 (((rd_L1 l0_0 bt190.1).length : Int) - 1)) then ((spec_l6Step.f k l0_0 (rd (rd_L1 l0_0 bt190.1) (wrap64 (((rd_L1 l0_0 bt190.1).length : Int) - 1))) (-1)).bind fun bt197 => (if 1 ≤ (l1.length : Int) then ((spec_l6Search.f k bt197.1 (l1.drop 1) a2).bind fun bt203 => ((some (([(⟨rd (rd_L1 l0_0 bt190.1) (wrap64 (((rd_L1 l0_0 bt190.1).length : Int) - 1)), (-1)⟩ : S47)] : List (S47)) : List (S47))).bind fun y207 => (if y207.length + bt203.1.length < 8796093022208 then (some ((y207 ++ bt203.1), bt203.2)) else (none)))) else (none))) else (spec_l6Search.l0 k l1 a2 (rd (rd_L1 l0_0 bt190.1) (wrap64 (((rd_L1 l0_0 bt190.1).length : Int) - 1))) 0 l0_0)) else (none)) else (none)) else (none)) else (none))) else (none))))
end
theorem spec_l6Search.mono_l : ∀ k, (∀ y0 y1 y2, LeO (spec_l6Search.f k y0 y1 y2) (spec_l6Search.f (k + 1) y0 y1 y2)) ∧ (∀ y0 y1 y2 y3 y4, LeO (spec_l6Search.l0 k y0 y1 y2 y3 y4) (spec_l6Search.l0 (k + 1) y0 y1 y2 y3 y4)) ∧ (∀ y0 y1 y2 y3 y4 y5, LeO (spec_l6Search.j1 k y0 y1 y2 y3 y4 y5) (spec_l6Search.j1 (k + 1) y0 y1 y2 y3 y4 y5))
 | 0 => ⟨fun _ _ _ r h => by simp [spec_l6Search.f] at h, fun _ _ _ _ _ r h => by simp [spec_l6Search.l0] at h, fun _ _ _ _ _ _ r h => by simp [spec_l6Search.j1] at h⟩
 | k + 1 => by
  obtain ⟨ih0, ih1, ih2⟩ := spec_l6Search.mono_l k
  refine ⟨?_, ?_, ?_⟩
  ·intro y0 y1 y2
   unfold spec_l6Search.f
   repeat' first
   | (with_reducible exact ih0 _ _ _)
   | (with_reducible exact ih1 _ _ _ _ _)
   | (with_reducible exact ih2 _ _ _ _ _ _)
   | (with_reducible exact spec_l5Find.mono _ _ _)
   | (with_reducible exact spec_l6Bound.mono _ _ _)
   | (with_reducible exact spec_l6Step.mono _ _ _ _)
   | (with_reducible exact LeO.refl _)
   | (with_reducible exact LeO.none _)
   | (with_reducible refine LeO.ite ?_ ?_)
   | (with_reducible refine LeO.bind ?_ (fun _ => ?_))
   | exact ih0 _ _ _
   | exact ih1 _ _ _ _ _
   | exact ih2 _ _ _ _ _ _
   | exact spec_l5Find.mono _ _ _
   | exact spec_l6Bound.mono _ _ _
   | exact spec_l6Step.mono _ _ _ _
   | exact LeO.none _
   | refine LeO.ite ?_ ?_
   | refine LeO.bind ?_ (fun _ => ?_)
  ·intro y0 y1 y2 y3 y4
   unfold spec_l6Search.l0
   repeat' first
   | (with_reducible exact ih0 _ _ _)
   | (with_reducible exact ih1 _ _ _ _ _)
   | (with_reducible exact ih2 _ _ _ _ _ _)
   | (with_reducible exact spec_l5Find.mono _ _ _)
   | (with_reducible exact spec_l6Bound.mono _ _ _)
   | (with_reducible exact spec_l6Step.mono _ _ _ _)
   | (with_reducible exact LeO.refl _)
   | (with_reducible exact LeO.none _)
   | (with_reducible refine LeO.ite ?_ ?_)
   | (with_reducible refine LeO.bind ?_ (fun _ => ?_))
   | exact ih0 _ _ _
   | exact ih1 _ _ _ _ _
   | exact ih2 _ _ _ _ _ _
   | exact spec_l5Find.mono _ _ _
   | exact spec_l6Bound.mono _ _ _
   | exact spec_l6Step.mono _ _ _ _
   | exact LeO.none _
   | refine LeO.ite ?_ ?_
   | refine LeO.bind ?_ (fun _ => ?_)
  ·intro y0 y1 y2 y3 y4 y5
   unfold spec_l6Search.j1
   repeat' first
   | (with_reducible exact ih0 _ _ _)
   | (with_reducible exact ih1 _ _ _ _ _)
   | (with_reducible exact ih2 _ _ _ _ _ _)
   | (with_reducible exact spec_l5Find.mono _ _ _)
   | (with_reducible exact spec_l6Bound.mono _ _ _)
   | (with_reducible exact spec_l6Step.mono _ _ _ _)
   | (with_reducible exact LeO.refl _)
   | (with_reducible exact LeO.none _)
   | (with_reducible refine LeO.ite ?_ ?_)
   | (with_reducible refine LeO.bind ?_ (fun _ => ?_))
   | exact ih0 _ _ _
   | exact ih1 _ _ _ _ _
   | exact ih2 _ _ _ _ _ _
   | exact spec_l5Find.mono _ _ _
   | exact spec_l6Bound.mono _ _ _
   | exact spec_l6Step.mono _ _ _ _
   | exact LeO.none _
   | refine LeO.ite ?_ ?_
   | refine LeO.bind ?_ (fun _ => ?_)
theorem spec_l6Search.mono : ∀ a0 a1 a2 k, LeO (spec_l6Search.f k a0 a1 a2) (spec_l6Search.f (k + 1) a0 a1 a2) := by
 intro a0 a1 a2 k
 obtain ⟨ih0, ih1, ih2⟩ := spec_l6Search.mono_l k
 exact ih0 a0 a1 a2
def spec_l6Search.T5 : Bool × List (List Nat × List Nat) := (true, [([], []), ([], []), ([1], [1]), ([2], [2]), ([0, 3], [0, 3]), ([4], [4]), ([5], [5]), ([5], [5]), ([6, 4, 0, 1, 2, 3, 4, 5, 6], [6]), ([7, 8, 0, 1, 2, 3, 4, 5, 6, 7, 8], [7])])
def spec_l6Search.B5 : List Nat := [0, 0, 2, 6, 15, 31, 63, 63, 127, 511]
theorem spec_l6Search.tab5 : rtab .any (opsOf Tryd.f34 5) = spec_l6Search.T5 := by kernel_rfl
theorem spec_l6Search.bits5 : waitsOk spec_l6Search.T5.2 spec_l6Search.B5 = true := by kernel_rfl
def spec_l6Search.T6 : Bool × List (List Nat × List Nat) := (true, [([], []), ([0], [0]), ([], []), ([1, 2], [1, 2]), ([3], [3]), ([], []), ([5], [5]), ([], []), ([6, 7], [6, 7]), ([8], [8]), ([9], [9]), ([10], [10]), ([4, 11], [4, 11]), ([12], [12]), ([13, 0, 1, 2, 3, 4, 5, 6, 7, 8, 9, 10, 11, 12, 13], [13])])
def spec_l6Search.B6 : List Nat := [0, 1, 0, 7, 15, 0, 32, 0, 224, 480, 992, 2016, 4095, 8191, 16383]
theorem spec_l6Search.tab6 : rtab .any (opsOf Tryd.f34 6) = spec_l6Search.T6 := by kernel_rfl
theorem spec_l6Search.bits6 : waitsOk spec_l6Search.T6.2 spec_l6Search.B6 = true := by kernel_rfl
def spec_l6Search.T10 : Bool × List (List Nat × List Nat) := (true, [([], []), ([], []), ([1], [1]), ([], []), ([0, 2, 3], [0, 2, 3]), ([4], [4]), ([5], [5]), ([5], [5]), ([6, 4, 0, 1, 2, 3, 4, 5, 6], [6]), ([7, 8, 0, 1, 2, 3, 4, 5, 6, 7, 8], [7])])
def spec_l6Search.B10 : List Nat := [0, 0, 2, 0, 15, 31, 63, 63, 127, 511]
theorem spec_l6Search.tab10 : rtab .any (opsOf Tryd.f34 10) = spec_l6Search.T10 := by kernel_rfl
theorem spec_l6Search.bits10 : waitsOk spec_l6Search.T10.2 spec_l6Search.B10 = true := by kernel_rfl
set_option maxHeartbeats 8000000 in
set_option maxRecDepth 100000 in
theorem spec_l6Search.calls (k : Nat) : ∀ (A0_0 : Option Addr) (c0_0 : Nat) (l0_0 : List (List Int)) (A1 : Option Addr) (c1 : Nat) (l1 : List Int) (a2 : Int) (r1 : List (S47)) (r2 : Bool) (w : World) (hr0_0 : Kd.C (Kd.slice 3 (Kd.int .i64)) w A0_0 l0_0.length l0_0) (hc0_0 : l0_0.length ≤ c0_0) (hr1 : Kd.C (Kd.int .i64) w A1 l1.length l1) (hc1 : l1.length ≤ c1) (h : spec_l6Search.f k l0_0 l1 a2 = some (r1, r2)),
  Calls Tryd.prog 34 #[.agg #[.slice A0_0 l0_0.length c0_0], .slice A1 l1.length c1, .int .i64 a2] w fun e w' => ∃ v0_ : Value, e = .returned (.tuple #[v0_, .bool r2]) ∧ Kd.R k47 47 w' w.heap.size (fun _ => True) v0_ r1 ∧ Below w.heap.size w w' := by
 induction k using Nat.strongRecOn with
 | _ k ih =>
 intro A0_0 c0_0 l0_0 A1 c1 l1 a2 r1 r2 w hr0_0 hc0_0 hr1 hc1 h
 cases k with
 | zero => exact absurd h (by simp [spec_l6Search.f])
 | succ k =>
 simp only [spec_l6Search.f] at h
 have hu30 := Tryd.underlying30
 have hu47 := Tryd.underlying47
 have HR0_0 := Aside0.mk hr0_0
 have HC0_0 := Aside0.mk hc0_0
 clear hr0_0 hc0_0
 have HR1 := Aside0.mk hr1
 have HC1 := Aside0.mk hc1
 clear hr1 hc1
 have HB := Aside0.mk (Below.refl w.heap.size w)
 have H : (if (l1.length : Int) = 0 then (some ((([] : List (S47))), true)) else ((spec_l6Bound.f k l0_0 l1).bind fun t185 => (if t185 > a2 then (some ((([] : List (S47))), false)) else (if 0 < (l1.length : Int) then ((spec_l5Find.f k l0_0 (rd l1 0)).bind fun bt190 => (if 0 ≤ bt190.1 then (if bt190.1 < (l0_0.length : Int) then (if 0 ≤ (wrap64 (((rd_L1 l0_0 bt190.1).length : Int) - 1)) then (if (wrap64 (((rd_L1 l0_0 bt190.1).length : Int) - 1)) < ((rd_L1 l0_0 bt190.1).length : Int) then (if bt190.2 = (wrap64 (((rd_L1 l0_0 bt190.1).length : Int) - 1)) then ((spec_l6Step.f k l0_0 (rd (rd_L1 l0_0 bt190.1) (wrap64 (((rd_L1 l0_0 bt190.1).length : Int) - 1))) (-1)).bind fun bt197 => (if 1 ≤ (l1.length : Int) then ((spec_l6Search.f k bt197.1 (l1.drop 1) a2).bind fun bt203 => ((some (([(⟨rd (rd_L1 l0_0 bt190.1) (wrap64 (((rd_L1 l0_0 bt190.1).length : Int) - 1)), (-1)⟩ : S47)] : List (S47)) : List (S47))).bind fun y207 => (if y207.length + bt203.1.length < 8796093022208 then (some ((y207 ++ bt203.1), bt203.2)) else (none)))) else (none))) else (spec_l6Search.l0 k l1 a2 (rd (rd_L1 l0_0 bt190.1) (wrap64 (((rd_L1 l0_0 bt190.1).length : Int) - 1))) 0 l0_0)) else (none)) else (none)) else (none)) else (none))) else (none))))) = some (r1, r2) := h
 clear h
 by_cases c4 : (l1.length : Int) = 0
 ·rw [if_pos c4] at H
  have c4b0 : ((l1.length : Int) == 0) = true := beq_iff_eq.mpr c4
  have c4b1 : ((l1.length : Int) != 0) = false := bne_eq_false_iff_eq.mpr c4
  clear c4
  obtain ⟨y182, hy182⟩ : ∃ y_ : List (S47), y_ = (([] : List (S47))) := ⟨_, rfl⟩
  replace H : (some (y182, true)) = some (r1, r2) := by first | (rw [hy182]; with_reducible exact H) | (have H2_ := (Option.bind_some _ _).symm.trans H; rw [hy182]; with_reducible exact H2_) | (have H2_ := (Option.bind_some _ _).symm.trans H; with_reducible exact H2_) | with_reducible exact H | (rw [hy182]; exact H) | exact H
  have Ny182 := Aside0.mk hy182
  clear hy182
  simp only [Option.some.injEq, Prod.mk.injEq] at H
  obtain ⟨rfl, rfl⟩ := H
  go_enter Tryd.func34, Tryd.ntmps34
  go_wp2_with (first | ((with_reducible refine gate_dst (N := 3) rfl ?_); refine box_event ?hg (N := 3) ?hd (cs := #[.slice A0_0 l0_0.length c0_0]) (t := 30) ?hr ?_; (case hd => rfl); (case hg => rfl); (case hr => first | (go_simp; done) | (go_simp; rfl)); intro gb181 hg w5 hbox hb; have n0_ := Aside0.mk (below_step (bel HB) hb); have n1_ := Aside0.mk (hbox); have n2_ := Aside0.mk ((by rw [hg]; exact (below_size (bel HB)) : w.heap.size ≤ gb181)); have n3_ := Aside0.mk ((by rw [hg]; exact (below_size (bel HB)) : w.heap.size ≤ gb181)); clear HB; have HB := n0_; have BK181 := n1_; have GW181 := n2_; have GE181 := n3_; clear n0_ n1_ n2_ n3_; clear hb hbox hg) | ((with_reducible refine gate_dst (N := 25) rfl ?_); refine Kd.R_lit k47 _ 47 ?hg (N := 25) ?hd (xs := ([] : List (S47))) (inner := []) (ok := fun _ => True) (okp := fun _ => True) ?hr ?hp (fun _ hk => hk) trivial (Below.refl _ _) (Nat.le_refl _) (by simp) ?_; (case hd => rfl); (case hg => rfl); (case hr => first | (go_simp; done) | (go_simp; rfl)); (case hp => exact (Reps.none _ _)); intro v183 w6 ho7 hb hg_ hnew_; clear hg_ hnew_; (first | rw [← Ny182.out] at ho7 | (simp only [Int.reduceToNat] at ho7; rw [← Ny182.out] at ho7)); have n0_ := Aside0.mk (Kd.R_lower ho7 (below_size (bel1 HB GE181))); have n1_ := Aside0.mk (blk_below (g := gb181) (o := .cells #[.slice A0_0 l0_0.length c0_0] 30 (0, 0)) (bkl BK181) hb); have n2_ := Aside0.mk (below_step (bel1 HB GE181) hb); clear BK181; clear HB; have HO184 := n0_; have BK181 := n1_; have HB := n2_; clear n0_ n1_ n2_; clear hb ho7))
  go_ret2
  exact ⟨_, by first | rfl | (simp [errW_none, errW_some] <;> rfl) | (simp [*, errW_none, errW_some] <;> rfl), rdl HO184, bel1 HB GE181⟩
 ·rw [if_neg c4] at H
  have c4b0 : ((l1.length : Int) == 0) = false := beq_eq_false_iff_ne.mpr c4
  have c4b1 : ((l1.length : Int) != 0) = true := bne_iff_ne.mpr c4
  have c4b2 : ¬ (l1 = []) := fun h_ => c4 (by rw [h_]; rfl)
  replace H := Option.bind_eq_some_iff.mp H
  obtain ⟨t185, A80, H⟩ := H
  replace H : (if t185 > a2 then (some ((([] : List (S47))), false)) else (if 0 < (l1.length : Int) then ((spec_l5Find.f k l0_0 (rd l1 0)).bind fun bt190 => (if 0 ≤ bt190.1 then (if bt190.1 < (l0_0.length : Int) then (if 0 ≤ (wrap64 (((rd_L1 l0_0 bt190.1).length : Int) - 1)) then (if (wrap64 (((rd_L1 l0_0 bt190.1).length : Int) - 1)) < ((rd_L1 l0_0 bt190.1).length : Int) then (if bt190.2 = (wrap64 (((rd_L1 l0_0 bt190.1).length : Int) - 1)) then ((spec_l6Step.f k l0_0 (rd (rd_L1 l0_0 bt190.1) (wrap64 (((rd_L1 l0_0 bt190.1).length : Int) - 1))) (-1)).bind fun bt197 => (if 1 ≤ (l1.length : Int) then ((spec_l6Search.f k bt197.1 (l1.drop 1) a2).bind fun bt203 => ((some (([(⟨rd (rd_L1 l0_0 bt190.1) (wrap64 (((rd_L1 l0_0 bt190.1).length : Int) - 1)), (-1)⟩ : S47)] : List (S47)) : List (S47))).bind fun y207 => (if y207.length + bt203.1.length < 8796093022208 then (some ((y207 ++ bt203.1), bt203.2)) else (none)))) else (none))) else (spec_l6Search.l0 k l1 a2 (rd (rd_L1 l0_0 bt190.1) (wrap64 (((rd_L1 l0_0 bt190.1).length : Int) - 1))) 0 l0_0)) else (none)) else (none)) else (none)) else (none))) else (none))) = some (r1, r2) := H
  have A8 := Aside0.mk A80
  clear A80
  by_cases c9 : t185 > a2
  ·rw [if_pos c9] at H
   have c9b0 : decide (a2 < t185) = true := decide_eq_true c9
   clear c9
   obtain ⟨y186, hy186⟩ : ∃ y_ : List (S47), y_ = (([] : List (S47))) := ⟨_, rfl⟩
   replace H : (some (y186, false)) = some (r1, r2) := by first | (rw [hy186]; with_reducible exact H) | (have H2_ := (Option.bind_some _ _).symm.trans H; rw [hy186]; with_reducible exact H2_) | (have H2_ := (Option.bind_some _ _).symm.trans H; with_reducible exact H2_) | with_reducible exact H | (rw [hy186]; exact H) | exact H
   have Ny186 := Aside0.mk hy186
   clear hy186
   simp only [Option.some.injEq, Prod.mk.injEq] at H
   obtain ⟨rfl, rfl⟩ := H
   go_enter Tryd.func34, Tryd.ntmps34
   go_wp2_with (first | ((with_reducible refine gate_dst (N := 3) rfl ?_); refine box_event ?hg (N := 3) ?hd (cs := #[.slice A0_0 l0_0.length c0_0]) (t := 30) ?hr ?_; (case hd => rfl); (case hg => rfl); (case hr => first | (go_simp; done) | (go_simp; rfl)); intro gb181 hg w10 hbox hb; have n0_ := Aside0.mk (below_step (bel HB) hb); have n1_ := Aside0.mk (hbox); have n2_ := Aside0.mk ((by rw [hg]; exact (below_size (bel HB)) : w.heap.size ≤ gb181)); have n3_ := Aside0.mk ((by rw [hg]; exact (below_size (bel HB)) : w.heap.size ≤ gb181)); clear HB; have HB := n0_; have BK181 := n1_; have GW181 := n2_; have GE181 := n3_; clear n0_ n1_ n2_ n3_; clear hb hbox hg; have hcz11_0 : w10.cell? ⟨gb181, 0, none⟩ = some (.slice A0_0 l0_0.length c0_0) := (blk_cell BK181.out 0).trans rfl; have hfz11_0 := blk_frozen BK181.out 0) | ((with_reducible refine gate_callee (f := 33) rfl ?_); refine goesL_ (some 28) rfl rfl Tryd.func33 (by kernel_rfl) rfl #[.agg #[.slice A0_0 l0_0.length c0_0], .slice A1 l1.length c1] rfl gmp ?_; (with_reducible refine (spec_l6Bound.calls k _ _ l0_0 _ _ l1 t185 _ ?side1 ?side2 ?side3 ?side4 A8.out).mono ?_); (case side1 => exact cdl (Kd.C_below HR0_0.out HB.out)); (case side2 => exact HC0_0.out); (case side3 => exact cdl (Kd.C_below HR1.out HB.out)); (case side4 => exact HC1.out); rintro e w12 ⟨rfl, hb⟩; refine ⟨_, rfl, ?_⟩; have n0_ := Aside0.mk (blk_below (g := gb181) (o := .cells #[.slice A0_0 l0_0.length c0_0] 30 (0, 0)) (bkl BK181) hb); have n1_ := Aside0.mk (below_step (bel1 HB GE181) hb); clear BK181; clear HB; have BK181 := n0_; have HB := n1_; clear n0_ n1_; (try clear hb); (try clear hb2); (try clear hk); (try clear hi)) | ((with_reducible refine gate_dst (N := 31) rfl ?_); refine Kd.R_lit k47 _ 47 ?hg (N := 31) ?hd (xs := ([] : List (S47))) (inner := []) (ok := fun _ => True) (okp := fun _ => True) ?hr ?hp (fun _ hk => hk) trivial (Below.refl _ _) (Nat.le_refl _) (by simp) ?_; (case hd => rfl); (case hg => rfl); (case hr => first | (go_simp; done) | (go_simp; rfl)); (case hp => exact (Reps.none _ _)); intro v187 w13 ho14 hb hg_ hnew_; clear hg_ hnew_; (first | rw [← Ny186.out] at ho14 | (simp only [Int.reduceToNat] at ho14; rw [← Ny186.out] at ho14)); have n0_ := Aside0.mk (Kd.R_lower ho14 (below_size (bel1 HB GE181))); have n1_ := Aside0.mk (blk_below (g := gb181) (o := .cells #[.slice A0_0 l0_0.length c0_0] 30 (0, 0)) (bkl BK181) hb); have n2_ := Aside0.mk (below_step (bel1 HB GE181) hb); clear BK181; clear HB; have HO188 := n0_; have BK181 := n1_; have HB := n2_; clear n0_ n1_ n2_; clear hb ho14))
   go_ret2
   exact ⟨_, by first | rfl | (simp [errW_none, errW_some] <;> rfl) | (simp [*, errW_none, errW_some] <;> rfl), rdl HO188, bel1 HB GE181⟩
  ·rw [if_neg c9] at H
   have c9b0 : decide (a2 < t185) = false := decide_eq_false c9
   clear c9
   by_cases c15 : 0 < (l1.length : Int)
   ·rw [if_pos c15] at H
    have c15b0 : decide (0 < (l1.length : Int)) = true := decide_eq_true c15
    have c15b1 : decide (0 < l1.length) = true := decide_eq_true (by omega)
    clear c15
    replace H := Option.bind_eq_some_iff.mp H
    obtain ⟨⟨t190, t191⟩, A160, H⟩ := H
    replace H : (if 0 ≤ t190 then (if t190 < (l0_0.length : Int) then (if 0 ≤ (wrap64 (((rd_L1 l0_0 t190).length : Int) - 1)) then (if (wrap64 (((rd_L1 l0_0 t190).length : Int) - 1)) < ((rd_L1 l0_0 t190).length : Int) then (if t191 = (wrap64 (((rd_L1 l0_0 t190).length : Int) - 1)) then ((spec_l6Step.f k l0_0 (rd (rd_L1 l0_0 t190) (wrap64 (((rd_L1 l0_0 t190).length : Int) - 1))) (-1)).bind fun bt197 => (if 1 ≤ (l1.length : Int) then ((spec_l6Search.f k bt197.1 (l1.drop 1) a2).bind fun bt203 => ((some (([(⟨rd (rd_L1 l0_0 t190) (wrap64 (((rd_L1 l0_0 t190).length : Int) - 1)), (-1)⟩ : S47)] : List (S47)) : List (S47))).bind fun y207 => (if y207.length + bt203.1.length < 8796093022208 then (some ((y207 ++ bt203.1), bt203.2)) else (none)))) else (none))) else (spec_l6Search.l0 k l1 a2 (rd (rd_L1 l0_0 t190) (wrap64 (((rd_L1 l0_0 t190).length : Int) - 1))) 0 l0_0)) else (none)) else (none)) else (none)) else (none)) = some (r1, r2) := H
    have A16 := Aside0.mk A160
    clear A160
    by_cases c17 : 0 ≤ t190
    ·rw [if_pos c17] at H
     have c17b0 : decide (0 ≤ t190) = true := decide_eq_true c17
     clear c17
     by_cases c18 : t190 < (l0_0.length : Int)
     ·rw [if_pos c18] at H
      have c18b0 : decide (t190 < (l0_0.length : Int)) = true := decide_eq_true c18
      clear c18
      obtain ⟨ji19, hji19⟩ : ∃ j_ : Int, (wrap64 (((rd_L1 l0_0 t190).length : Int) - 1)) = j_ := ⟨_, rfl⟩
      replace H : (if 0 ≤ (ji19) then (if (ji19) < ((rd_L1 l0_0 t190).length : Int) then (if t191 = (ji19) then ((spec_l6Step.f k l0_0 (rd (rd_L1 l0_0 t190) (ji19)) (-1)).bind fun bt197 => (if 1 ≤ (l1.length : Int) then ((spec_l6Search.f k bt197.1 (l1.drop 1) a2).bind fun bt203 => ((some (([(⟨rd (rd_L1 l0_0 t190) (ji19), (-1)⟩ : S47)] : List (S47)) : List (S47))).bind fun y207 => (if y207.length + bt203.1.length < 8796093022208 then (some ((y207 ++ bt203.1), bt203.2)) else (none)))) else (none))) else (spec_l6Search.l0 k l1 a2 (rd (rd_L1 l0_0 t190) (ji19)) 0 l0_0)) else (none)) else (none)) = some (r1, r2) := by first | (rw [hji19] at H; exact H) | (simp only [hji19] at H ⊢; exact H)
      (try rw [hji19] at A8)
      (try rw [hji19] at A16)
      have hji19w : (IntKind.i64.wrap (((rd_L1 l0_0 t190).length : Int) - 1)) = ji19 := (i64_w _).trans hji19
      by_cases c20 : 0 ≤ (ji19)
      ·rw [if_pos c20] at H
       have c20b0 : decide (0 ≤ (ji19)) = true := decide_eq_true c20
       clear c20
       by_cases c21 : (ji19) < ((rd_L1 l0_0 t190).length : Int)
       ·rw [if_pos c21] at H
        have c21b0 : decide ((ji19) < ((rd_L1 l0_0 t190).length : Int)) = true := decide_eq_true c21
        clear c21
        by_cases c22 : t191 = (ji19)
        ·rw [if_pos c22] at H
         have c22b0 : (t191 == (ji19)) = true := beq_iff_eq.mpr c22
         have c22b1 : (t191 != (ji19)) = false := bne_eq_false_iff_eq.mpr c22
         clear c22
         replace H := Option.bind_eq_some_iff.mp H
         obtain ⟨⟨t197, t200⟩, A230, H⟩ := H
         replace H : (if 1 ≤ (l1.length : Int) then ((spec_l6Search.f k t197 (l1.drop 1) a2).bind fun bt203 => ((some (([(⟨rd (rd_L1 l0_0 t190) (ji19), (-1)⟩ : S47)] : List (S47)) : List (S47))).bind fun y207 => (if y207.length + bt203.1.length < 8796093022208 then (some ((y207 ++ bt203.1), bt203.2)) else (none)))) else (none)) = some (r1, r2) := H
         have A23 := Aside0.mk A230
         clear A230
         by_cases c24 : 1 ≤ (l1.length : Int)
         ·rw [if_pos c24] at H
          have c24b0 := eq_true c24
          have c24b1 : decide (1 ≤ (l1.length : Int)) = true := decide_eq_true c24
          clear c24
          replace H := Option.bind_eq_some_iff.mp H
          obtain ⟨⟨t203, t206⟩, A250, H⟩ := H
          replace H : ((some (([(⟨rd (rd_L1 l0_0 t190) (ji19), (-1)⟩ : S47)] : List (S47)) : List (S47))).bind fun y207 => (if y207.length + t203.length < 8796093022208 then (some ((y207 ++ t203), t206)) else (none))) = some (r1, r2) := H
          have A25 := Aside0.mk A250
          clear A250
          obtain ⟨y207, hy207⟩ : ∃ y_ : List (S47), y_ = (([(⟨rd (rd_L1 l0_0 t190) (ji19), (-1)⟩ : S47)] : List (S47))) := ⟨_, rfl⟩
          replace H : (if y207.length + t203.length < 8796093022208 then (some ((y207 ++ t203), t206)) else (none)) = some (r1, r2) := by first | (rw [hy207]; with_reducible exact H) | (have H2_ := (Option.bind_some _ _).symm.trans H; rw [hy207]; with_reducible exact H2_) | (have H2_ := (Option.bind_some _ _).symm.trans H; with_reducible exact H2_) | with_reducible exact H | (rw [hy207]; exact H) | exact H
          have Ny207 := Aside0.mk hy207
          clear hy207
          by_cases c26 : y207.length + t203.length < 8796093022208
          ·rw [if_pos c26] at H
           have LMc26 := Aside0.mk c26
           clear c26
           obtain ⟨y210, hy210⟩ : ∃ y_ : List (S47), y_ = (y207 ++ t203) := ⟨_, rfl⟩
           replace H : (some (y210, t206)) = some (r1, r2) := by first | (rw [hy210]; with_reducible exact H) | (have H2_ := (Option.bind_some _ _).symm.trans H; rw [hy210]; with_reducible exact H2_) | (have H2_ := (Option.bind_some _ _).symm.trans H; with_reducible exact H2_) | with_reducible exact H | (rw [hy210]; exact H) | exact H
           have Ny210 := Aside0.mk hy210
           clear hy210
           simp only [Option.some.injEq, Prod.mk.injEq] at H
           obtain ⟨rfl, rfl⟩ := H
           go_enter Tryd.func34, Tryd.ntmps34
           try go_wp2_with (first | ((with_reducible refine gate_dst (N := 3) rfl ?_); refine box_event ?hg (N := 3) ?hd (cs := #[.slice A0_0 l0_0.length c0_0]) (t := 30) ?hr ?_; (case hd => rfl); (case hg => rfl); (case hr => first | (go_simp; done) | (go_simp; rfl)); intro gb181 hg w27 hbox hb; have n0_ := Aside0.mk (below_step (bel HB) hb); have n1_ := Aside0.mk (hbox); have n2_ := Aside0.mk ((by rw [hg]; exact (below_size (bel HB)) : w.heap.size ≤ gb181)); have n3_ := Aside0.mk ((by rw [hg]; exact (below_size (bel HB)) : w.heap.size ≤ gb181)); clear HB; have HB := n0_; have BK181 := n1_; have GW181 := n2_; have GE181 := n3_; clear n0_ n1_ n2_ n3_; clear hb hbox hg; have hcz28_0 : w27.cell? ⟨gb181, 0, none⟩ = some (.slice A0_0 l0_0.length c0_0) := (blk_cell BK181.out 0).trans rfl; have hfz28_0 := blk_frozen BK181.out 0) | ((with_reducible refine gate_callee (f := 33) rfl ?_); refine goesL_ (some 28) rfl rfl Tryd.func33 (by kernel_rfl) rfl #[.agg #[.slice A0_0 l0_0.length c0_0], .slice A1 l1.length c1] rfl gmp ?_; (with_reducible refine (spec_l6Bound.calls k _ _ l0_0 _ _ l1 t185 _ ?side1 ?side2 ?side3 ?side4 A8.out).mono ?_); (case side1 => exact cdl (Kd.C_below HR0_0.out HB.out)); (case side2 => exact HC0_0.out); (case side3 => exact cdl (Kd.C_below HR1.out HB.out)); (case side4 => exact HC1.out); rintro e w29 ⟨rfl, hb⟩; refine ⟨_, rfl, ?_⟩; have n0_ := Aside0.mk (blk_below (g := gb181) (o := .cells #[.slice A0_0 l0_0.length c0_0] 30 (0, 0)) (bkl BK181) hb); have n1_ := Aside0.mk (below_step (bel1 HB GE181) hb); clear BK181; clear HB; have BK181 := n0_; have HB := n1_; clear n0_ n1_; (try clear hb); (try clear hb2); (try clear hk); (try clear hi)))
           have n0_ := Aside0.mk (blk_drew BK181.out)
           have n1_ := Aside0.mk (below_drew1 HB.out)
           clear BK181
           clear HB
           have BK181 := n0_
           have HB := n1_
           clear n0_ n1_
           have p189 : 0 ≤ (0 : Int) := (by omega)
           have q189 : 0 < (l1.length : Int) := oda
           obtain ⟨ad189, e189, hx189_0⟩ := Kd.at_int HR1.out 0 p189 q189
           have hw189_0 := hx189_0
           (try rw [show ((0 : Int)).toNat = 0 from rfl] at hw189_0)
           (try rw [show 0 * 1 = 0 from rfl] at hw189_0)
           (try rw [Addr.add_zero'] at hw189_0)
           cases e189
           have qi189 : (0 < l1.length) = True := eq_true (by omega)
           (try rw [show ((0 : Int)).toNat = 0 from rfl] at hx189_0)
           (try rw [Addr.add_zero'] at hx189_0)
           replace hx189_0 := cel HB hx189_0
           replace p189 := eq_true p189
           replace q189 := eq_true q189
           refine start_ (n := 10) (S := fun w' => w'.cell? ⟨gb181, 0, none⟩ = some (.slice A0_0 l0_0.length c0_0) ∧ w'.cell? ad189 = some (.int .i64 (rd l1 0))) (ds := []) #[false, false, false, false, false, false, false, false, false, false] (by kernel_rfl) rfl rfl ⟨(blk_cell BK181.out 0).trans rfl, (cel HB hw189_0)⟩ (fun hHeld => ?_); refine with_tabW spec_l6Search.tab5 spec_l6Search.bits5 (fun HT_ HW_ => ?_)
           generalize w29.drew = w30 at BK181 HB hx189_0 hHeld ⊢
           refine pure_ (i := 1) (N := some 34) (v := ?_) (a' := ?_) #[false, true, false, false, false, false, false, false, false, false] rfl rfl (any_of HT_.out (by kernel_rfl)) (fun _ _ _ h => h) (Or.inl ⟨by rfl, ?_⟩) ?_ ?_
           rotate_left
           ·intro w'
            go_simp
            with_reducible rfl
           rotate_left
           ·simp only [Act.put, List.setIfInBounds_toArray, List.set_cons_zero, List.set_cons_succ, i64_w, i32_w]
            rfl
           refine pure_ (i := 2) (N := some 35) (v := ?_) (a' := ?_) #[false, true, true, false, false, false, false, false, false, false] rfl rfl (any_of HT_.out (by kernel_rfl)) (fun _ _ _ h => h) (Or.inl ⟨by rfl, ?_⟩) ?_ ?_
           rotate_left
           ·intro w'
            go_simp
            with_reducible rfl
           rotate_left
           ·simp only [Act.put, List.setIfInBounds_toArray, List.set_cons_zero, List.set_cons_succ, i64_w, i32_w]
            rfl
           refine take_ (i := 0) (N := some 33) (v := ?_) (a' := ?_) #[true, true, true, false, false, false, false, false, false, false] rfl rfl (take_ofW HT_.out HW_.out (by kernel_rfl)) (fun _ _ _ h => h) (Or.inl ⟨by rfl, ?_⟩) hHeld ?_ ?_
           rotate_left
           ·rintro w' ⟨s0, s1⟩
            go_simp
            with_reducible rfl
           rotate_left
           ·simp only [Act.put, List.setIfInBounds_toArray, List.set_cons_zero, List.set_cons_succ, i64_w, i32_w]
            rfl
           refine take_ (i := 3) (N := some 36) (v := ?_) (a' := ?_) #[true, true, true, true, false, false, false, false, false, false] rfl rfl (take_ofW HT_.out HW_.out (by kernel_rfl)) (fun _ _ _ h => h) (Or.inl ⟨by rfl, ?_⟩) hHeld ?_ ?_
           rotate_left
           ·rintro w' ⟨s0, s1⟩
            go_simp
            with_reducible rfl
           rotate_left
           ·simp only [Act.put, List.setIfInBounds_toArray, List.set_cons_zero, List.set_cons_succ, i64_w, i32_w]
            rfl
           refine one_ (i := 4) (N := some 37) #[true, true, true, true, true, false, false, false, false, false] rfl rfl (one_of HT_.out (by kernel_rfl)) (by decide) (fun K hK => ?_)
           refine goes_ Tryd.func43 (by kernel_rfl) rfl #[.agg #[.slice A0_0 l0_0.length c0_0], .int .i64 (rd l1 0)] (by rfl) rfl rfl gmp ?_
           with_reducible refine (spec_l5Find.calls k _ _ l0_0 (rd l1 0) t190 t191 _ ?side1 ?side2 A16.out).mono ?_
           (case side1 => exact cdl (Kd.C_below HR0_0.out HB.out))
           (case side2 => exact HC0_0.out)
           rintro e w31 ⟨rfl, hb⟩
           refine ⟨_, rfl, ?_⟩
           have n0_ := Aside0.mk (blk_below (g := gb181) (o := .cells #[.slice A0_0 l0_0.length c0_0] 30 (0, 0)) (bkl BK181) hb)
           have n1_ := Aside0.mk (below_step (bel1 HB GE181) hb)
           clear BK181
           clear HB
           have BK181 := n0_
           have HB := n1_
           clear n0_ n1_
           (try clear hb)
           (try clear hb2)
           (try clear hk)
           (try clear hi)
           refine hK.out _ _ ⟨(blk_cell BK181.out 0).trans rfl, (cel HB hw189_0)⟩ (fun hHeld => ?_)
           clear hK K
           refine norm_ (a' := ?_) ?_ ?_
           rotate_left
           ·show Act.put _ (some 37) _ = _
            simp only [Act.put, List.setIfInBounds_toArray, List.set_cons_zero, List.set_cons_succ, i64_w, i32_w]
            rfl
           refine pure_ (i := 5) (N := some 32) (v := ?_) (a' := ?_) #[true, true, true, true, true, true, false, false, false, false] rfl rfl (any_of HT_.out (by kernel_rfl)) (fun _ _ _ h => h) (Or.inl ⟨by rfl, ?_⟩) ?_ ?_
           rotate_left
           ·intro w'
            go_simp
            with_reducible rfl
           rotate_left
           ·simp only [Act.put, List.setIfInBounds_toArray, List.set_cons_zero, List.set_cons_succ, i64_w, i32_w]
            rfl
           refine pure_ (i := 6) (N := some 38) (v := ?_) (a' := ?_) #[true, true, true, true, true, true, true, false, false, false] rfl rfl (any_of HT_.out (by kernel_rfl)) (fun _ _ _ h => h) (Or.inl ⟨by rfl, ?_⟩) ?_ ?_
           rotate_left
           ·intro w'
            go_simp
            with_reducible rfl
           rotate_left
           ·simp only [Act.put, List.setIfInBounds_toArray, List.set_cons_zero, List.set_cons_succ, i64_w, i32_w]
            rfl
           refine pure_ (i := 7) (N := some 39) (v := ?_) (a' := ?_) #[true, true, true, true, true, true, true, true, false, false] rfl rfl (any_of HT_.out (by kernel_rfl)) (fun _ _ _ h => h) (Or.inl ⟨by rfl, ?_⟩) ?_ ?_
           rotate_left
           ·intro w'
            go_simp
            with_reducible rfl
           rotate_left
           ·simp only [Act.put, List.setIfInBounds_toArray, List.set_cons_zero, List.set_cons_succ, i64_w, i32_w]
            rfl
           refine pure_ (i := 8) (N := some 8) (v := ?_) (a' := ?_) #[true, true, true, true, true, true, true, true, true, false] rfl rfl (any_of HT_.out (by kernel_rfl)) (fun _ _ _ h => h) (Or.inl ⟨by rfl, ?_⟩) ?_ ?_
           rotate_left
           ·intro w'
            go_simp
            with_reducible rfl
           rotate_left
           ·simp only [Act.put, List.setIfInBounds_toArray, List.set_cons_zero, List.set_cons_succ, i64_w, i32_w]
            rfl
           refine pure_ (i := 9) (N := some 9) (v := ?_) (a' := ?_) #[true, true, true, true, true, true, true, true, true, true] rfl rfl (any_of HT_.out (by kernel_rfl)) (fun _ _ _ h => h) (Or.inl ⟨by rfl, ?_⟩) ?_ ?_
           rotate_left
           ·intro w'
            go_simp
            with_reducible rfl
           rotate_left
           ·simp only [Act.put, List.setIfInBounds_toArray, List.set_cons_zero, List.set_cons_succ, i64_w, i32_w]
            rfl
           refine done_ (done_of HT_.out (by kernel_rfl)) ?_
           try go_wp2
           have n0_ := Aside0.mk (blk_drew BK181.out)
           have n1_ := Aside0.mk (below_drew1 HB.out)
           clear BK181
           clear HB
           have BK181 := n0_
           have HB := n1_
           clear n0_ n1_
           have p192 : 0 ≤ (t190 : Int) := oda
           have q192 : t190 < (l0_0.length : Int) := oda
           obtain ⟨ad192, A192_0, c192_0, e192, hx192_0, hl192_0, hi192_0⟩ := at_L1 HR0_0.out t190 p192 q192
           have hw192_0 := hx192_0
           cases e192
           replace hx192_0 := cel HB hx192_0
           have HR192_0 := Aside0.mk hi192_0
           have HC192_0 := Aside0.mk hl192_0
           clear hi192_0 hl192_0
           replace p192 := eq_true p192
           replace q192 := eq_true q192
           have p193 : 0 ≤ (t190 : Int) := oda
           have q193 : t190 < (l0_0.length : Int) := oda
           obtain ⟨ad193, A193_0, c193_0, e193, hx193_0, hl193_0, hi193_0⟩ := at_L1 HR0_0.out t190 p193 q193
           have hw193_0 := hx193_0
           obtain rfl : ad192 = ad193 := (by injection e193)
           replace hx193_0 := cel HB hx193_0
           have HR193_0 := Aside0.mk hi193_0
           have HC193_0 := Aside0.mk hl193_0
           clear hi193_0 hl193_0
           replace p193 := eq_true p193
           replace q193 := eq_true q193
           have ea_ := Option.some.inj (hx192_0.symm.trans hx193_0)
           injection ea_ with ea_ en_ ec_
           subst ea_
           subst ec_
           clear en_
           have p194 : 0 ≤ ((ji19) : Int) := oda
           have q194 : (ji19) < ((rd_L1 l0_0 t190).length : Int) := oda
           obtain ⟨ad194, e194, hx194_0⟩ := Kd.at_int HR192_0.out (ji19) p194 q194
           have hw194_0 := hx194_0
           cases e194
           replace hx194_0 := cel HB hx194_0
           replace p194 := eq_true p194
           replace q194 := eq_true q194
           refine start_ (n := 15) (S := fun w' => w'.cell? ⟨gb181, 0, none⟩ = some (.slice (some ad192) l0_0.length c0_0) ∧ w'.cell? (ad192.add (t190).toNat) = some (.slice (some ad194) (rd_L1 l0_0 t190).length c192_0) ∧ w'.cell? (ad192.add (t190).toNat) = some (.slice (some ad194) (rd_L1 l0_0 t190).length c192_0) ∧ w'.cell? (ad194.add ((ji19)).toNat) = some (.int .i64 (rd (rd_L1 l0_0 t190) (ji19)))) (ds := []) #[false, false, false, false, false, false, false, false, false, false, false, false, false, false, false] (by kernel_rfl) rfl rfl ⟨(blk_cell BK181.out 0).trans rfl, (cel HB hw192_0), (cel HB hw193_0), (cel HB hw194_0)⟩ (fun hHeld => ?_); refine with_tabW spec_l6Search.tab6 spec_l6Search.bits6 (fun HT_ HW_ => ?_)
           generalize w31.drew = w32 at BK181 HB HR192_0 HR193_0 hx192_0 hx193_0 hx194_0 hHeld ⊢
           refine pure_ (i := 0) (N := some 40) (v := ?_) (a' := ?_) #[true, false, false, false, false, false, false, false, false, false, false, false, false, false, false] rfl rfl (any_of HT_.out (by kernel_rfl)) (fun _ _ _ h => h) (Or.inl ⟨by rfl, ?_⟩) ?_ ?_
           rotate_left
           ·intro w'
            go_simp
            with_reducible rfl
           rotate_left
           ·simp only [Act.put, List.setIfInBounds_toArray, List.set_cons_zero, List.set_cons_succ, i64_w, i32_w]
            rfl
           refine pure_ (i := 2) (N := some 42) (v := ?_) (a' := ?_) #[true, false, true, false, false, false, false, false, false, false, false, false, false, false, false] rfl rfl (any_of HT_.out (by kernel_rfl)) (fun _ _ _ h => h) (Or.inl ⟨by rfl, ?_⟩) ?_ ?_
           rotate_left
           ·intro w'
            go_simp
            with_reducible rfl
           rotate_left
           ·simp only [Act.put, List.setIfInBounds_toArray, List.set_cons_zero, List.set_cons_succ, i64_w, i32_w]
            rfl
           refine pure_ (i := 5) (N := some 45) (v := ?_) (a' := ?_) #[true, false, true, false, false, true, false, false, false, false, false, false, false, false, false] rfl rfl (any_of HT_.out (by kernel_rfl)) (fun _ _ _ h => h) (Or.inl ⟨by rfl, ?_⟩) ?_ ?_
           rotate_left
           ·intro w'
            go_simp
            with_reducible rfl
           rotate_left
           ·simp only [Act.put, List.setIfInBounds_toArray, List.set_cons_zero, List.set_cons_succ, i64_w, i32_w]
            rfl
           refine pure_ (i := 7) (N := some 47) (v := ?_) (a' := ?_) #[true, false, true, false, false, true, false, true, false, false, false, false, false, false, false] rfl rfl (any_of HT_.out (by kernel_rfl)) (fun _ _ _ h => h) (Or.inl ⟨by rfl, ?_⟩) ?_ ?_
           rotate_left
           ·intro w'
            go_simp
            with_reducible rfl
           rotate_left
           ·simp only [Act.put, List.setIfInBounds_toArray, List.set_cons_zero, List.set_cons_succ, i64_w, i32_w]
            rfl
           refine take_ (i := 1) (N := some 41) (v := ?_) (a' := ?_) #[true, true, true, false, false, true, false, true, false, false, false, false, false, false, false] rfl rfl (take_ofW HT_.out HW_.out (by kernel_rfl)) (fun _ _ _ h => h) (Or.inl ⟨by rfl, ?_⟩) hHeld ?_ ?_
           rotate_left
           ·rintro w' ⟨s0, s1, s2, s3⟩
            go_simp
            with_reducible rfl
           rotate_left
           ·simp only [Act.put, List.setIfInBounds_toArray, List.set_cons_zero, List.set_cons_succ, i64_w, i32_w]
            rfl
           refine pure_ (i := 3) (N := some 43) (v := ?_) (a' := ?_) #[true, true, true, true, false, true, false, true, false, false, false, false, false, false, false] rfl rfl (any_of HT_.out (by kernel_rfl)) (fun _ _ _ h => h) (Or.inl ⟨by rfl, ?_⟩) ?_ ?_
           rotate_left
           ·intro w'
            go_simp
            with_reducible rfl
           rotate_left
           ·simp only [Act.put, List.setIfInBounds_toArray, List.set_cons_zero, List.set_cons_succ, i64_w, i32_w]
            rfl
           refine take_ (i := 4) (N := some 44) (v := ?_) (a' := ?_) #[true, true, true, true, true, true, false, true, false, false, false, false, false, false, false] rfl rfl (take_ofW HT_.out HW_.out (by kernel_rfl)) (fun _ _ _ h => h) (Or.inl ⟨by rfl, ?_⟩) hHeld ?_ ?_
           rotate_left
           ·rintro w' ⟨s0, s1, s2, s3⟩
            go_simp
            with_reducible rfl
           rotate_left
           ·simp only [Act.put, List.setIfInBounds_toArray, List.set_cons_zero, List.set_cons_succ, i64_w, i32_w]
            rfl
           refine take_ (i := 6) (N := some 46) (v := ?_) (a' := ?_) #[true, true, true, true, true, true, true, true, false, false, false, false, false, false, false] rfl rfl (take_ofW HT_.out HW_.out (by kernel_rfl)) (fun _ _ _ h => h) (Or.inl ⟨by rfl, ?_⟩) hHeld ?_ ?_
           rotate_left
           ·rintro w' ⟨s0, s1, s2, s3⟩
            go_simp
            with_reducible rfl
           rotate_left
           ·simp only [Act.put, List.setIfInBounds_toArray, List.set_cons_zero, List.set_cons_succ, i64_w, i32_w]
            rfl
           refine pure_ (i := 8) (N := some 48) (v := ?_) (a' := ?_) #[true, true, true, true, true, true, true, true, true, false, false, false, false, false, false] rfl rfl (any_of HT_.out (by kernel_rfl)) (fun _ _ _ h => h) (Or.inl ⟨by rfl, ?_⟩) ?_ ?_
           rotate_left
           ·intro w'
            go_simp
            with_reducible rfl
           rotate_left
           ·simp only [Act.put, List.setIfInBounds_toArray, List.set_cons_zero, List.set_cons_succ, i64_w, i32_w]
            rfl
           refine take_ (i := 9) (N := some 49) (v := ?_) (a' := ?_) #[true, true, true, true, true, true, true, true, true, true, false, false, false, false, false] rfl rfl (take_ofW HT_.out HW_.out (by kernel_rfl)) (fun _ _ _ h => h) (Or.inl ⟨by rfl, ?_⟩) hHeld ?_ ?_
           rotate_left
           ·rintro w' ⟨s0, s1, s2, s3⟩
            go_simp
            with_reducible rfl
           rotate_left
           ·simp only [Act.put, List.setIfInBounds_toArray, List.set_cons_zero, List.set_cons_succ, i64_w, i32_w]
            rfl
           refine pure_ (i := 10) (N := some 50) (v := ?_) (a' := ?_) #[true, true, true, true, true, true, true, true, true, true, true, false, false, false, false] rfl rfl (any_of HT_.out (by kernel_rfl)) (fun _ _ _ h => h) (Or.inl ⟨by rfl, ?_⟩) ?_ ?_
           rotate_left
           ·intro w'
            go_simp
            with_reducible rfl
           rotate_left
           ·simp only [Act.put, List.setIfInBounds_toArray, List.set_cons_zero, List.set_cons_succ, i64_w, i32_w]
            rfl
           refine pure_ (i := 11) (N := some 51) (v := ?_) (a' := ?_) #[true, true, true, true, true, true, true, true, true, true, true, true, false, false, false] rfl rfl (any_of HT_.out (by kernel_rfl)) (fun _ _ _ h => h) (Or.inl ⟨by rfl, ?_⟩) ?_ ?_
           rotate_left
           ·intro w'
            go_simp
            with_reducible rfl
           rotate_left
           ·simp only [Act.put, List.setIfInBounds_toArray, List.set_cons_zero, List.set_cons_succ, i64_w, i32_w]
            rfl
           refine pure_ (i := 12) (N := some 52) (v := ?_) (a' := ?_) #[true, true, true, true, true, true, true, true, true, true, true, true, true, false, false] rfl rfl (any_of HT_.out (by kernel_rfl)) (fun _ _ _ h => h) (Or.inl ⟨by rfl, ?_⟩) ?_ ?_
           rotate_left
           ·intro w'
            go_simp
            with_reducible rfl
           rotate_left
           ·simp only [Act.put, List.setIfInBounds_toArray, List.set_cons_zero, List.set_cons_succ, i64_w, i32_w]
            rfl
           refine take_ (i := 13) (N := some 53) (v := ?_) (a' := ?_) #[true, true, true, true, true, true, true, true, true, true, true, true, true, true, false] rfl rfl (take_ofW HT_.out HW_.out (by kernel_rfl)) (fun _ _ _ h => h) (Or.inl ⟨by rfl, ?_⟩) hHeld ?_ ?_
           rotate_left
           ·rintro w' ⟨s0, s1, s2, s3⟩
            go_simp
            with_reducible rfl
           rotate_left
           ·simp only [Act.put, List.setIfInBounds_toArray, List.set_cons_zero, List.set_cons_succ, i64_w, i32_w]
            rfl
           refine pure_ (i := 14) (N := some 10) (v := ?_) (a' := ?_) #[true, true, true, true, true, true, true, true, true, true, true, true, true, true, true] rfl rfl (any_of HT_.out (by kernel_rfl)) (fun _ _ _ h => h) (Or.inl ⟨by rfl, ?_⟩) ?_ ?_
           rotate_left
           ·intro w'
            go_simp
            with_reducible rfl
           rotate_left
           ·simp only [Act.put, List.setIfInBounds_toArray, List.set_cons_zero, List.set_cons_succ, i64_w, i32_w]
            rfl
           refine done_ (done_of HT_.out (by kernel_rfl)) ?_
           have hcz33_0 : w32.cell? ⟨gb181, 0, none⟩ = some (.slice (some ad192) l0_0.length c0_0) := (blk_cell BK181.out 0).trans rfl
           have hfz33_0 := blk_frozen BK181.out 0
           have p195 : 0 ≤ (t190 : Int) := oda
           have q195 : t190 < (l0_0.length : Int) := oda
           obtain ⟨ad195, A195_0, c195_0, e195, hx195_0, hl195_0, hi195_0⟩ := at_L1 HR0_0.out t190 p195 q195
           obtain rfl : ad192 = ad195 := (by injection e195)
           replace hx195_0 := cel HB hx195_0
           have HR195_0 := Aside0.mk hi195_0
           have HC195_0 := Aside0.mk hl195_0
           clear hi195_0 hl195_0
           replace p195 := eq_true p195
           replace q195 := eq_true q195
           have ea_ := Option.some.inj (hx192_0.symm.trans hx195_0)
           injection ea_ with ea_ en_ ec_
           subst ea_
           subst ec_
           clear en_
           try go_wp2_with (first | ((with_reducible refine gate_dst (N := 11) rfl ?_); refine box_event ?hg (N := 11) ?hd (cs := #[.int .i64 0, .int .i64 0]) (t := 47) ?hr ?_; (case hd => rfl); (case hg => rfl); (case hr => first | (go_simp; done) | (go_simp; rfl)); intro gb196 hg w34 hbox hb; have n0_ := Aside0.mk (blk_below (g := gb181) (o := .cells #[.slice (some ad192) l0_0.length c0_0] 30 (0, 0)) (bkl BK181) hb); have n1_ := Aside0.mk (below_step (bel1 HB GE181) hb); have n2_ := Aside0.mk (hbox); have n3_ := Aside0.mk ((by rw [hg]; exact (below_size (bel1 HB GE181)) : w.heap.size ≤ gb196)); have n4_ := Aside0.mk ((by rw [hg]; exact (below_size (bel1 HB GE181)) : w.heap.size ≤ gb196)); have n5_ := Aside0.mk ((by rw [hg]; exact Nat.ne_of_lt (blk_lt (g := gb181) (o := .cells #[.slice (some ad192) l0_0.length c0_0] 30 (0, 0)) (bkl BK181)) : gb181 ≠ gb196)); have n6_ := Aside0.mk ((by rw [hg]; exact Nat.ne_of_gt (blk_lt (g := gb181) (o := .cells #[.slice (some ad192) l0_0.length c0_0] 30 (0, 0)) (bkl BK181)) : gb196 ≠ gb181)); clear BK181; clear HB; have BK181 := n0_; have HB := n1_; have BK196 := n2_; have GW196 := n3_; have GE196 := n4_; have NB181_196 := n5_; have NB196_181 := n6_; clear n0_ n1_ n2_ n3_ n4_ n5_ n6_; clear hb hbox hg; have hnb35 := NB196_181.out; have hnc35 := NB181_196.out; have hcz36_0 : w34.cell? ⟨gb196, 0, none⟩ = some (.int .i64 0) := (blk_cell BK196.out 0).trans rfl; have hcz36_1 : w34.cell? ⟨gb196, 1, none⟩ = some (.int .i64 0) := (blk_cell BK196.out 1).trans rfl; have hfz36_0 := blk_frozen BK196.out 0; have hfz36_1 := blk_frozen BK196.out 1) | ((with_reducible refine gate_store (t := 47) (p := 11) rfl ?_); refine store_event (t := 47) (p := 11) (v := ?vo_w37) (w1 := ((w34.setCell ⟨gb196, 0, none⟩ (.int .i64 (rd (rd_L1 l0_0 t190) (ji19)))).setCell ⟨gb196, 1, none⟩ (.int .i64 (-1)))) ?hg ?ho ?hn ?hr ?_; (case ho => rfl); (case hg => rfl); (case hn => rfl); (case hr => first | (go_simp; done) | (go_simp; rfl)); intro w37 hw; have n0_ : Aside0 (w37.heap[gb181]? = some (.cells #[.slice (some ad192) l0_0.length c0_0] 30 (0, 0))) := ⟨(by rw [hw]; exact (by (with_reducible repeat (first | refine blk_drewN ?_ _ | refine blk_drew ?_ | refine blk_alloc ?_ _)); refine blk_far ?_ NB181_196.out _; (with_reducible repeat (first | refine blk_drewN ?_ _ | refine blk_drew ?_ | refine blk_alloc ?_ _)); refine blk_far ?_ NB181_196.out _; (with_reducible repeat (first | refine blk_drewN ?_ _ | refine blk_drew ?_ | refine blk_alloc ?_ _)); exact BK181.out))⟩; have n1_ : Aside0 (w37.heap[gb196]? = some (.cells #[.int .i64 (rd (rd_L1 l0_0 t190) (ji19)), .int .i64 (-1)] 47 (0, 0))) := ⟨(by rw [hw]; exact (by (with_reducible repeat (first | refine blk_drewN ?_ _ | refine blk_drew ?_ | refine blk_alloc ?_ _)); refine blk_put (cs := #[.int .i64 (rd (rd_L1 l0_0 t190) (ji19)), .int .i64 0]) ?_ 1 _ rfl; (with_reducible repeat (first | refine blk_drewN ?_ _ | refine blk_drew ?_ | refine blk_alloc ?_ _)); refine blk_put (cs := #[.int .i64 0, .int .i64 0]) ?_ 0 _ rfl; (with_reducible repeat (first | refine blk_drewN ?_ _ | refine blk_drew ?_ | refine blk_alloc ?_ _)); exact BK196.out))⟩; have n2_ : Aside0 (Below w.heap.size w w37) := ⟨(by rw [hw]; exact (bel2 HB GE181 GE196))⟩; clear hw; clear BK181; clear BK196; clear HB; have BK181 := n0_; have BK196 := n1_; have HB := n2_; clear n0_ n1_ n2_; have hcz38_0 : w37.cell? ⟨gb181, 0, none⟩ = some (.slice (some ad192) l0_0.length c0_0) := (blk_cell BK181.out 0).trans rfl; have hfz38_0 := blk_frozen BK181.out 0; have hcz39_0 : w37.cell? ⟨gb196, 0, none⟩ = some (.int .i64 (rd (rd_L1 l0_0 t190) (ji19))) := (blk_cell BK196.out 0).trans rfl; have hcz39_1 : w37.cell? ⟨gb196, 1, none⟩ = some (.int .i64 (-1)) := (blk_cell BK196.out 1).trans rfl; have hfz39_0 := blk_frozen BK196.out 0; have hfz39_1 := blk_frozen BK196.out 1) | ((with_reducible refine gate_callee (f := 45) rfl ?_); refine goesL_ (some 68) rfl rfl Tryd.func45 (by kernel_rfl) rfl #[.agg #[.slice (some ad192) l0_0.length c0_0], .agg #[.int .i64 (rd (rd_L1 l0_0 t190) (ji19)), .int .i64 (-1)]] rfl (by (try simp only [List.map_toArray, List.map_cons, List.map_nil]); first | done | (simp only [hji19]; rfl) | rfl | (simp only [List.length_drop, List.length_take]; rfl)) ?_; (with_reducible refine (spec_l6Step.calls k (fun k_ => k_ < w.heap.size) _ _ l0_0 (rd (rd_L1 l0_0 t190) (ji19)) (-1) t197 t200 _ ?side1 A23.out).mono ?_); (case side1 => exact Kd.V_mk HC0_0.out (Kd.F_below (Kd.C_F (Kd.heap_slice 3 (Kd.heap_int .i64)) HR0_0.out) (bel2 HB GE181 GE196))); rintro e w40 ⟨v198, rfl, ho0, hb⟩; refine ⟨_, rfl, ?_⟩; have n0_ := Aside0.mk (Kd.V_lower (Kd.V_mono (ok' := fun k_ => k_ ≠ gb181 ∧ k_ ≠ gb196) ho0 (fun k_ hk_ => ⟨Or.elim hk_ (fun hs_ => fun e_ => Nat.not_le.2 hs_ (by rw [e_]; exact GW181.out)) (fun hn_ => (Kd.freshB (g := gb181) (o := .cells #[.slice (some ad192) l0_0.length c0_0] 30 (0, 0)) (bkl BK181) k_ hn_)), Or.elim hk_ (fun hs_ => fun e_ => Nat.not_le.2 hs_ (by rw [e_]; exact GW196.out)) (fun hn_ => (Kd.freshB (g := gb196) (o := .cells #[.int .i64 (rd (rd_L1 l0_0 t190) (ji19)), .int .i64 (-1)] 47 (0, 0)) (bkl BK196) k_ hn_))⟩)) (below_size (bel2 HB GE181 GE196))); have n1_ := Aside0.mk (blk_below (g := gb181) (o := .cells #[.slice (some ad192) l0_0.length c0_0] 30 (0, 0)) (bkl BK181) hb); have n2_ := Aside0.mk (blk_below (g := gb196) (o := .cells #[.int .i64 (rd (rd_L1 l0_0 t190) (ji19)), .int .i64 (-1)] 47 (0, 0)) (bkl BK196) hb); have n3_ := Aside0.mk (below_step (bel2 HB GE181 GE196) hb); clear BK181; clear BK196; clear HB; have HO199 := n0_; have BK181 := n1_; have BK196 := n2_; have HB := n3_; clear n0_ n1_ n2_ n3_; (try clear hb); (try clear hb2); (try clear hk); (try clear hi); (try clear ho0)) | ((with_reducible refine gate_dst (N := 12) rfl ?_); refine box_event ?hg (N := 12) ?hd (cs := #[.slice none 0 0]) (t := 30) ?hr ?_; (case hd => rfl); (case hg => rfl); (case hr => first | (go_simp; done) | (go_simp; rfl)); intro gb201 hg w41 hbox hb; have n0_ := Aside0.mk (Kd.V_below (Kd.V_elderB (by (with_reducible repeat (first | apply Kd.V_alloc | apply Kd.V_drewN | apply Kd.V_drew)); exact HO199.out) gb201 (Nat.le_of_eq hg.symm)) hb); have n1_ := Aside0.mk (blk_below (g := gb181) (o := .cells #[.slice (some ad192) l0_0.length c0_0] 30 (0, 0)) (bkl BK181) hb); have n2_ := Aside0.mk (blk_below (g := gb196) (o := .cells #[.int .i64 (rd (rd_L1 l0_0 t190) (ji19)), .int .i64 (-1)] 47 (0, 0)) (bkl BK196) hb); have n3_ := Aside0.mk (below_step (bel2 HB GE181 GE196) hb); have n4_ := Aside0.mk (hbox); have n5_ := Aside0.mk ((by rw [hg]; exact (below_size (bel2 HB GE181 GE196)) : w.heap.size ≤ gb201)); have n6_ := Aside0.mk ((by rw [hg]; exact (below_size (bel2 HB GE181 GE196)) : w.heap.size ≤ gb201)); have n7_ := Aside0.mk ((by rw [hg]; exact Nat.ne_of_lt (blk_lt (g := gb181) (o := .cells #[.slice (some ad192) l0_0.length c0_0] 30 (0, 0)) (bkl BK181)) : gb181 ≠ gb201)); have n8_ := Aside0.mk ((by rw [hg]; exact Nat.ne_of_gt (blk_lt (g := gb181) (o := .cells #[.slice (some ad192) l0_0.length c0_0] 30 (0, 0)) (bkl BK181)) : gb201 ≠ gb181)); have n9_ := Aside0.mk ((by rw [hg]; exact Nat.ne_of_lt (blk_lt (g := gb196) (o := .cells #[.int .i64 (rd (rd_L1 l0_0 t190) (ji19)), .int .i64 (-1)] 47 (0, 0)) (bkl BK196)) : gb196 ≠ gb201)); have n10_ := Aside0.mk ((by rw [hg]; exact Nat.ne_of_gt (blk_lt (g := gb196) (o := .cells #[.int .i64 (rd (rd_L1 l0_0 t190) (ji19)), .int .i64 (-1)] 47 (0, 0)) (bkl BK196)) : gb201 ≠ gb196)); clear HO199; clear BK181; clear BK196; clear HB; have HO199 := n0_; have BK181 := n1_; have BK196 := n2_; have HB := n3_; have BK201 := n4_; have GW201 := n5_; have GE201 := n6_; have NB181_201 := n7_; have NB201_181 := n8_; have NB196_201 := n9_; have NB201_196 := n10_; clear n0_ n1_ n2_ n3_ n4_ n5_ n6_ n7_ n8_ n9_ n10_; clear hb hbox hg; obtain ⟨Ao42, co42, eo42⟩ := Kd.V_slice HO199.out; subst eo42; have hnb43 := NB201_181.out; have hnc43 := NB181_201.out; have hnb44 := NB201_196.out; have hnc44 := NB196_201.out; have hcz45_0 : w41.cell? ⟨gb201, 0, none⟩ = some (.slice none 0 0) := (blk_cell BK201.out 0).trans rfl; have hfz45_0 := blk_frozen BK201.out 0))
           have n0_ : Aside0 (Kd.V (Kd.slice 3 (Kd.int .i64)) 25 (w41.setCell ⟨gb201, 0, none⟩ (.slice Ao42 t197.length co42)) w.heap.size (fun k_ => k_ ≠ gb181 ∧ k_ ≠ gb196 ∧ k_ ≠ gb201) (.slice Ao42 t197.length co42) t197) := ⟨by (with_reducible repeat (first | apply Kd.V_alloc | apply Kd.V_drewN | apply Kd.V_drew)); exact Kd.V_mono (Kd.V_far (p := ⟨gb201, 0, none⟩) (Kd.V_mono HO199.out (fun k_ hk => (⟨hk, hk.2⟩ : _ ∧ k_ ≠ gb201))) (fun _ hk => hk.2) (.slice Ao42 t197.length co42)) (fun _ hk => ⟨hk.1.1.1, ⟨hk.1.1.2, hk.1.2⟩⟩)⟩
           have n1_ : Aside0 ((w41.setCell ⟨gb201, 0, none⟩ (.slice Ao42 t197.length co42)).heap[gb181]? = some (.cells #[.slice (some ad192) l0_0.length c0_0] 30 (0, 0))) := ⟨by (with_reducible repeat (first | refine blk_drewN ?_ _ | refine blk_drew ?_ | refine blk_alloc ?_ _)); refine blk_far ?_ NB181_201.out _; (with_reducible repeat (first | refine blk_drewN ?_ _ | refine blk_drew ?_ | refine blk_alloc ?_ _)); exact BK181.out⟩
           have n2_ : Aside0 ((w41.setCell ⟨gb201, 0, none⟩ (.slice Ao42 t197.length co42)).heap[gb196]? = some (.cells #[.int .i64 (rd (rd_L1 l0_0 t190) (ji19)), .int .i64 (-1)] 47 (0, 0))) := ⟨by (with_reducible repeat (first | refine blk_drewN ?_ _ | refine blk_drew ?_ | refine blk_alloc ?_ _)); refine blk_far ?_ NB196_201.out _; (with_reducible repeat (first | refine blk_drewN ?_ _ | refine blk_drew ?_ | refine blk_alloc ?_ _)); exact BK196.out⟩
           have n3_ : Aside0 ((w41.setCell ⟨gb201, 0, none⟩ (.slice Ao42 t197.length co42)).heap[gb201]? = some (.cells #[.slice Ao42 t197.length co42] 30 (0, 0))) := ⟨by (with_reducible repeat (first | refine blk_drewN ?_ _ | refine blk_drew ?_ | refine blk_alloc ?_ _)); refine blk_put (cs := #[.slice none 0 0]) ?_ 0 _ rfl; (with_reducible repeat (first | refine blk_drewN ?_ _ | refine blk_drew ?_ | refine blk_alloc ?_ _)); exact BK201.out⟩
           have n4_ : Aside0 (Below w.heap.size w (w41.setCell ⟨gb201, 0, none⟩ (.slice Ao42 t197.length co42))) := ⟨bel3 HB GE181 GE196 GE201⟩
           (try clear HO199)
           (try clear BK181)
           (try clear BK196)
           (try clear BK201)
           (try clear HB)
           generalize (w41.setCell ⟨gb201, 0, none⟩ (.slice Ao42 t197.length co42)) = w46 at n0_ n1_ n2_ n3_ n4_ ⊢
           have HO199 := n0_
           have BK181 := n1_
           have BK196 := n2_
           have BK201 := n3_
           have HB := n4_
           clear n0_ n1_ n2_ n3_ n4_
           have n0_ := Aside0.mk (Kd.V_drew HO199.out)
           have n1_ := Aside0.mk (blk_drew BK181.out)
           have n2_ := Aside0.mk (blk_drew BK196.out)
           have n3_ := Aside0.mk (blk_drew BK201.out)
           have n4_ := Aside0.mk (below_drew1 HB.out)
           clear HO199
           clear BK181
           clear BK196
           clear BK201
           clear HB
           have HO199 := n0_
           have BK181 := n1_
           have BK196 := n2_
           have BK201 := n3_
           have HB := n4_
           clear n0_ n1_ n2_ n3_ n4_
           obtain ⟨i048, hi048, _, hsz48, _⟩ := info_parts info3
           obtain ⟨A48, hcut48, hA48, hC48⟩ := print_drop_of (P := Tryd.prog) (Value.int .i64) 0 25 3 .i64 Tryd.underlying25 hi048 hsz48 (some ad189) c1 l1 1 (by omega) (oda) HC1.out
           have HR202 := Aside0.mk (Kd.C_of_reads (h1 := fun _ => rfl) (hA48 _ (Kd.reads_of_C HR1.out)))
           have HC202 := Aside0.mk hC48
           clear hA48 hC48 hi048 hsz48
           refine start_ (n := 10) (S := fun w' => w'.cell? ⟨gb201, 0, none⟩ = some (.slice Ao42 t197.length co42)) (ds := []) #[false, false, false, false, false, false, false, false, false, false] (by kernel_rfl) rfl rfl ((blk_cell BK201.out 0).trans rfl) (fun hHeld => ?_); refine with_tabW spec_l6Search.tab10 spec_l6Search.bits10 (fun HT_ HW_ => ?_)
           generalize w46.drew = w47 at HO199 BK181 BK196 BK201 HB HR202 hHeld ⊢
           refine pure_ (i := 1) (N := some 73) (v := ?_) (a' := ?_) #[false, true, false, false, false, false, false, false, false, false] rfl rfl (any_of HT_.out (by kernel_rfl)) (fun _ _ _ h => h) (Or.inl ⟨by rfl, ?_⟩) ?_ ?_
           rotate_left
           ·intro w'
            go_simp
            with_reducible rfl
           rotate_left
           ·simp only [Act.put, List.setIfInBounds_toArray, List.set_cons_zero, List.set_cons_succ, i64_w, i32_w]
            rfl
           refine pure_ (i := 2) (N := some 74) (v := ?_) (a' := ?_) #[false, true, true, false, false, false, false, false, false, false] rfl rfl (any_of HT_.out (by kernel_rfl)) (fun _ _ _ h => h) (Or.inl ⟨by rfl, ?_⟩) ?_ ?_
           rotate_left
           ·intro w'
            go_simp
            with_reducible rfl
           rotate_left
           ·simp only [Act.put, List.setIfInBounds_toArray, List.set_cons_zero, List.set_cons_succ, i64_w, i32_w]
            rfl
           refine pure_ (i := 3) (N := some 75) (v := ?_) (a' := ?_) #[false, true, true, true, false, false, false, false, false, false] rfl rfl (any_of HT_.out (by kernel_rfl)) (fun _ _ _ h => h) (Or.inl ⟨by rfl, ?_⟩) ?_ ?_
           rotate_left
           ·intro w'
            go_simp
            with_reducible rfl
           rotate_left
           ·simp only [Act.put, List.setIfInBounds_toArray, List.set_cons_zero, List.set_cons_succ, i64_w, i32_w]
            rfl
           refine take_ (i := 0) (N := some 72) (v := ?_) (a' := ?_) #[true, true, true, true, false, false, false, false, false, false] rfl rfl (take_ofW HT_.out HW_.out (by kernel_rfl)) (fun _ _ _ h => h) (Or.inl ⟨by rfl, ?_⟩) hHeld ?_ ?_
           rotate_left
           ·intro w' s0
            go_simp
            with_reducible rfl
           rotate_left
           ·simp only [Act.put, List.setIfInBounds_toArray, List.set_cons_zero, List.set_cons_succ, i64_w, i32_w]
            rfl
           refine one_ (i := 4) (N := some 76) #[true, true, true, true, true, false, false, false, false, false] rfl rfl (one_of HT_.out (by kernel_rfl)) (by decide) (fun K hK => ?_)
           refine goes_ Tryd.func34 (by kernel_rfl) rfl #[.agg #[.slice Ao42 t197.length co42], .slice A48 (l1.drop 1).length (c1 - 1), .int .i64 a2] (by rfl) rfl rfl (by (try simp only [List.map_toArray, List.map_cons, List.map_nil]); first | done | (rw [show (l1.drop 1).length = (l1.length - 1) from List.length_drop] <;> rfl) | rfl | (simp only [List.length_drop, List.length_take]; rfl)) ?_
           with_reducible refine (ih k (by omega) _ _ t197 _ _ (l1.drop 1) a2 t203 t206 _ ?side1 ?side2 ?side3 ?side4 A25.out).mono ?_
           (case side1 => repeat (first | exact (Kd.V_reads' HO199.out).2.2 | (with_reducible refine Kd.C_alloc ?_ _) | (with_reducible refine Kd.C_drewN ?_ _) | (with_reducible refine Kd.C_drew ?_)))
           (case side2 => exact (Kd.V_reads' HO199.out).2.1)
           (case side3 => exact cdl (Kd.C_below HR202.out HB.out))
           (case side4 => exact HC202.out)
           rintro e w49 ⟨v204, rfl, ho0, hb⟩
           refine ⟨_, rfl, ?_⟩
           have n0_ := Aside0.mk (Kd.V_elder' (by (with_reducible repeat (first | apply Kd.V_alloc | apply Kd.V_drewN | apply Kd.V_drew)); exact HO199.out) (Kd.R_base ho0) hb)
           have n1_ := Aside0.mk (Kd.R_lower (Kd.R_newB ho0 (g := gb196) (o := .cells #[.int .i64 (rd (rd_L1 l0_0 t190) (ji19)), .int .i64 (-1)] 47 (0, 0)) (bkl BK196)) (below_size (bel3 HB GE181 GE196 GE201)))
           have n2_ := Aside0.mk (blk_below (g := gb181) (o := .cells #[.slice (some ad192) l0_0.length c0_0] 30 (0, 0)) (bkl BK181) hb)
           have n3_ := Aside0.mk (blk_below (g := gb196) (o := .cells #[.int .i64 (rd (rd_L1 l0_0 t190) (ji19)), .int .i64 (-1)] 47 (0, 0)) (bkl BK196) hb)
           have n4_ := Aside0.mk (blk_below (g := gb201) (o := .cells #[.slice Ao42 t197.length co42] 30 (0, 0)) (bkl BK201) hb)
           have n5_ := Aside0.mk (below_step (bel3 HB GE181 GE196 GE201) hb)
           clear HO199
           clear BK181
           clear BK196
           clear BK201
           clear HB
           have HO199 := n0_
           have HO205 := n1_
           have BK181 := n2_
           have BK196 := n3_
           have BK201 := n4_
           have HB := n5_
           clear n0_ n1_ n2_ n3_ n4_ n5_
           (try clear hb)
           (try clear hb2)
           (try clear hk)
           (try clear hi)
           (try clear ho0)
           refine hK.out _ _ ((blk_cell BK201.out 0).trans rfl) (fun hHeld => ?_)
           clear hK K
           refine norm_ (a' := ?_) ?_ ?_
           rotate_left
           ·show Act.put _ (some 76) _ = _
            simp only [Act.put, List.setIfInBounds_toArray, List.set_cons_zero, List.set_cons_succ, i64_w, i32_w]
            rfl
           refine pure_ (i := 5) (N := some 71) (v := ?_) (a' := ?_) #[true, true, true, true, true, true, false, false, false, false] rfl rfl (any_of HT_.out (by kernel_rfl)) (fun _ _ _ h => h) (Or.inl ⟨by rfl, ?_⟩) ?_ ?_
           rotate_left
           ·intro w'
            go_simp
            with_reducible rfl
           rotate_left
           ·simp only [Act.put, List.setIfInBounds_toArray, List.set_cons_zero, List.set_cons_succ, i64_w, i32_w]
            rfl
           refine pure_ (i := 6) (N := some 77) (v := ?_) (a' := ?_) #[true, true, true, true, true, true, true, false, false, false] rfl rfl (any_of HT_.out (by kernel_rfl)) (fun _ _ _ h => h) (Or.inl ⟨by rfl, ?_⟩) ?_ ?_
           rotate_left
           ·intro w'
            go_simp
            with_reducible rfl
           rotate_left
           ·simp only [Act.put, List.setIfInBounds_toArray, List.set_cons_zero, List.set_cons_succ, i64_w, i32_w]
            rfl
           refine pure_ (i := 7) (N := some 78) (v := ?_) (a' := ?_) #[true, true, true, true, true, true, true, true, false, false] rfl rfl (any_of HT_.out (by kernel_rfl)) (fun _ _ _ h => h) (Or.inl ⟨by rfl, ?_⟩) ?_ ?_
           rotate_left
           ·intro w'
            go_simp
            with_reducible rfl
           rotate_left
           ·simp only [Act.put, List.setIfInBounds_toArray, List.set_cons_zero, List.set_cons_succ, i64_w, i32_w]
            rfl
           refine pure_ (i := 8) (N := some 14) (v := ?_) (a' := ?_) #[true, true, true, true, true, true, true, true, true, false] rfl rfl (any_of HT_.out (by kernel_rfl)) (fun _ _ _ h => h) (Or.inl ⟨by rfl, ?_⟩) ?_ ?_
           rotate_left
           ·intro w'
            go_simp
            with_reducible rfl
           rotate_left
           ·simp only [Act.put, List.setIfInBounds_toArray, List.set_cons_zero, List.set_cons_succ, i64_w, i32_w]
            rfl
           refine pure_ (i := 9) (N := some 15) (v := ?_) (a' := ?_) #[true, true, true, true, true, true, true, true, true, true] rfl rfl (any_of HT_.out (by kernel_rfl)) (fun _ _ _ h => h) (Or.inl ⟨by rfl, ?_⟩) ?_ ?_
           rotate_left
           ·intro w'
            go_simp
            with_reducible rfl
           rotate_left
           ·simp only [Act.put, List.setIfInBounds_toArray, List.set_cons_zero, List.set_cons_succ, i64_w, i32_w]
            rfl
           refine done_ (done_of HT_.out (by kernel_rfl)) ?_
           have hcz50_0 : w49.cell? ⟨gb196, 0, none⟩ = some (.int .i64 (rd (rd_L1 l0_0 t190) (ji19))) := (blk_cell BK196.out 0).trans rfl
           have hcz50_1 : w49.cell? ⟨gb196, 1, none⟩ = some (.int .i64 (-1)) := (blk_cell BK196.out 1).trans rfl
           have hfz50_0 := blk_frozen BK196.out 0
           have hfz50_1 := blk_frozen BK196.out 1
           try go_wp2_with (first | ((with_reducible refine gate_dst (N := 80) rfl ?_); refine Kd.R_lit k47 _ 47 ?hg (N := 80) ?hd (xs := ([(⟨rd (rd_L1 l0_0 t190) (ji19), (-1)⟩ : S47)] : List (S47))) (inner := [.int .i64 (rd (rd_L1 l0_0 t190) (ji19)), .int .i64 (-1)]) (ok := fun _ => True) (okp := fun _ => True) ?hr ?hp (fun _ hk => hk) trivial (Below.refl _ _) (Nat.le_refl _) (by simp) ?_; (case hd => rfl); (case hg => rfl); (case hr => first | (go_simp; done) | (go_simp; rfl)); (case hp => exact (Reps.c2 (show Kd.M k47 _ _ _ (⟨rd (rd_L1 l0_0 t190) (ji19), (-1)⟩ : S47) [.int .i64 (rd (rd_L1 l0_0 t190) (ji19)), .int .i64 (-1)] from (k47_mkM _ _ _ (⟨rd (rd_L1 l0_0 t190) (ji19), (-1)⟩ : S47) )) (Reps.none _ _))); intro v208 w51 ho52 hb hg_ hnew_; clear hg_ hnew_; (first | rw [← Ny207.out] at ho52 | (simp only [Int.reduceToNat] at ho52; rw [← Ny207.out] at ho52)); have n0_ := Aside0.mk (Kd.V_elder' (by (with_reducible repeat (first | apply Kd.V_alloc | apply Kd.V_drewN | apply Kd.V_drew)); exact HO199.out) (Kd.R_base ho52) hb); have n1_ := Aside0.mk (Kd.R_elder' (rdl HO205) (Kd.R_base ho52) hb); have n2_ := Aside0.mk (Kd.R_lower (Kd.R_newB (Kd.R_new' ho52 (Kd.R_lt (rdl HO205))) (g := gb196) (o := .cells #[.int .i64 (rd (rd_L1 l0_0 t190) (ji19)), .int .i64 (-1)] 47 (0, 0)) (bkl BK196)) (below_size (bel3 HB GE181 GE196 GE201))); have n3_ := Aside0.mk (blk_below (g := gb181) (o := .cells #[.slice (some ad192) l0_0.length c0_0] 30 (0, 0)) (bkl BK181) hb); have n4_ := Aside0.mk (blk_below (g := gb196) (o := .cells #[.int .i64 (rd (rd_L1 l0_0 t190) (ji19)), .int .i64 (-1)] 47 (0, 0)) (bkl BK196) hb); have n5_ := Aside0.mk (blk_below (g := gb201) (o := .cells #[.slice Ao42 t197.length co42] 30 (0, 0)) (bkl BK201) hb); have n6_ := Aside0.mk (below_step (bel3 HB GE181 GE196 GE201) hb); clear HO199; clear HO205; clear BK181; clear BK196; clear BK201; clear HB; have HO199 := n0_; have HO205 := n1_; have HO209 := n2_; have BK181 := n3_; have BK196 := n4_; have BK201 := n5_; have HB := n6_; clear n0_ n1_ n2_ n3_ n4_ n5_ n6_; clear hb ho52; obtain ⟨Ao54, co54, eo54⟩ := Kd.R_slice HO205.out; subst eo54) | ((with_reducible refine gate_builtin (b := .append) (xs := #[.tmp 80, .tmp 81]) rfl ?_); at_builtin; refine Kd.R_append_rows k47 (w0 := w) w.heap.size rfl (.tmp 80) (.tmp 81) 27 47 (.agg #[(.int .i64 0), (.int .i64 0)]) 16 rfl Tryd.underlying27 info47 rfl (by decide) (by omega) v208 y207 t203 _ _ _ (fun k_ => some k_ ≠ (.slice Ao54 t203.length co54 : Value).ownBlock ∧ k_ ≠ gb196) (fun _ => False) rfl rfl ?aO ?aR (fun _ _ h => h) (fun _ h => h.elim) ?aF ?aB ?aS ?aL ?_; (case aR => repeat (first | exact (Kd.R_reads' HO205.out).2.2 | (with_reducible refine Kd.C_alloc ?_ _) | (with_reducible refine Kd.C_drewN ?_ _) | (with_reducible refine Kd.C_drew ?_))); (case aB => exact (bel3 HB GE181 GE196 GE201)); (case aF => exact (fun k_ hk => ⟨Kd.fresh' (Kd.R_lt (rdl HO205)) k_ hk, Kd.freshB (g := gb196) (o := .cells #[.int .i64 (rd (rd_L1 l0_0 t190) (ji19)), .int .i64 (-1)] 47 (0, 0)) (bkl BK196) k_ hk⟩)); (case aO => exact (by (with_reducible repeat (first | apply Kd.R_alloc | apply Kd.R_drewN | apply Kd.R_drew)); exact Kd.R_mono HO209.out (fun _ hk => ⟨hk.1.2, hk.2⟩))); (case aS => exact (below_size (bel3 HB GE181 GE196 GE201))); (case aL => have := LMc26.out; omega); intro v211 w53 ho hb hg hat; rw [← Ny210.out] at ho; have n0_ := Aside0.mk (blk_grown (g := gb181) (o := .cells #[.slice (some ad192) l0_0.length c0_0] 30 (0, 0)) (bkl BK181) hg (Kd.R_ne HO209.out BK181.out (by decide))); have n1_ := Aside0.mk (blk_grown (g := gb196) (o := .cells #[.int .i64 (rd (rd_L1 l0_0 t190) (ji19)), .int .i64 (-1)] 47 (0, 0)) (bkl BK196) hg (Kd.R_away HO209.out (fun _ hk => hk.2))); have n2_ := Aside0.mk (Kd.V_afterv (ok := (fun k_ => some k_ ≠ (.slice Ao54 t203.length co54 : Value).ownBlock ∧ k_ ≠ gb181 ∧ k_ ≠ gb196 ∧ k_ ≠ gb201)) (by (with_reducible repeat (first | apply Kd.V_alloc | apply Kd.V_drewN | apply Kd.V_drew)); exact Kd.V_mono HO199.out (fun _ hk => ⟨⟨hk.1.2, ⟨hk.1.1.1, ⟨hk.1.1.2.1, hk.1.1.2.2⟩⟩⟩, hk.2⟩)) hg hat); have n3_ := Aside0.mk (blk_grown (g := gb201) (o := .cells #[.slice Ao42 t197.length co42] 30 (0, 0)) (bkl BK201) hg (Kd.R_ne HO209.out BK201.out (by decide))); have n4_ := Aside0.mk (Kd.R_after (ok := (fun k_ => k_ ≠ gb196)) (by (with_reducible repeat (first | apply Kd.R_alloc | apply Kd.R_drewN | apply Kd.R_drew)); exact Kd.R_mono HO205.out (fun _ hk => ⟨hk.1.2, hk.2⟩)) hg hat); have n5_ := Aside0.mk (hb); have n6_ := Aside0.mk (ho); clear BK181; clear BK196; clear HO199; clear BK201; clear HO205; clear HB; clear HO209; have BK181 := n0_; have BK196 := n1_; have HO199 := n2_; have BK201 := n3_; have HO205 := n4_; have HB := n5_; have HO212 := n6_; clear n0_ n1_ n2_ n3_ n4_ n5_ n6_; clear ho hb hg hat))
           go_ret2
           exact ⟨_, by first | rfl | (simp [errW_none, errW_some] <;> rfl) | (simp only [← hji19]; first | rfl | (simp [errW_none, errW_some] <;> rfl)) | (simp [*, errW_none, errW_some] <;> rfl), by (with_reducible repeat (first | apply Kd.R_alloc | apply Kd.R_drewN | apply Kd.R_drew)); exact Kd.R_mono HO212.out (fun _ hk => trivial), bel3 HB GE181 GE196 GE201⟩
          ·rw [if_neg c26] at H
           exact absurd H (by simp)
         ·rw [if_neg c24] at H
          exact absurd H (by simp)
        ·rw [if_neg c22] at H
         have c22b0 : (t191 == (ji19)) = false := beq_eq_false_iff_ne.mpr c22
         have c22b1 : (t191 != (ji19)) = true := bne_iff_ne.mpr c22
         have H' := Aside0.mk H
         clear H
         go_enter Tryd.func34, Tryd.ntmps34
         try go_wp2_with (first | ((with_reducible refine gate_dst (N := 3) rfl ?_); refine box_event ?hg (N := 3) ?hd (cs := #[.slice A0_0 l0_0.length c0_0]) (t := 30) ?hr ?_; (case hd => rfl); (case hg => rfl); (case hr => first | (go_simp; done) | (go_simp; rfl)); intro gb181 hg w55 hbox hb; have n0_ := Aside0.mk (below_step (bel HB) hb); have n1_ := Aside0.mk (hbox); have n2_ := Aside0.mk ((by rw [hg]; exact (below_size (bel HB)) : w.heap.size ≤ gb181)); have n3_ := Aside0.mk ((by rw [hg]; exact (below_size (bel HB)) : w.heap.size ≤ gb181)); clear HB; have HB := n0_; have BK181 := n1_; have GW181 := n2_; have GE181 := n3_; clear n0_ n1_ n2_ n3_; clear hb hbox hg; have hcz56_0 : w55.cell? ⟨gb181, 0, none⟩ = some (.slice A0_0 l0_0.length c0_0) := (blk_cell BK181.out 0).trans rfl; have hfz56_0 := blk_frozen BK181.out 0) | ((with_reducible refine gate_callee (f := 33) rfl ?_); refine goesL_ (some 28) rfl rfl Tryd.func33 (by kernel_rfl) rfl #[.agg #[.slice A0_0 l0_0.length c0_0], .slice A1 l1.length c1] rfl gmp ?_; (with_reducible refine (spec_l6Bound.calls k _ _ l0_0 _ _ l1 t185 _ ?side1 ?side2 ?side3 ?side4 A8.out).mono ?_); (case side1 => exact cdl (Kd.C_below HR0_0.out HB.out)); (case side2 => exact HC0_0.out); (case side3 => exact cdl (Kd.C_below HR1.out HB.out)); (case side4 => exact HC1.out); rintro e w57 ⟨rfl, hb⟩; refine ⟨_, rfl, ?_⟩; have n0_ := Aside0.mk (blk_below (g := gb181) (o := .cells #[.slice A0_0 l0_0.length c0_0] 30 (0, 0)) (bkl BK181) hb); have n1_ := Aside0.mk (below_step (bel1 HB GE181) hb); clear BK181; clear HB; have BK181 := n0_; have HB := n1_; clear n0_ n1_; (try clear hb); (try clear hb2); (try clear hk); (try clear hi)))
         have n0_ := Aside0.mk (blk_drew BK181.out)
         have n1_ := Aside0.mk (below_drew1 HB.out)
         clear BK181
         clear HB
         have BK181 := n0_
         have HB := n1_
         clear n0_ n1_
         have p189 : 0 ≤ (0 : Int) := (by omega)
         have q189 : 0 < (l1.length : Int) := oda
         obtain ⟨ad189, e189, hx189_0⟩ := Kd.at_int HR1.out 0 p189 q189
         have hw189_0 := hx189_0
         (try rw [show ((0 : Int)).toNat = 0 from rfl] at hw189_0)
         (try rw [show 0 * 1 = 0 from rfl] at hw189_0)
         (try rw [Addr.add_zero'] at hw189_0)
         cases e189
         have qi189 : (0 < l1.length) = True := eq_true (by omega)
         (try rw [show ((0 : Int)).toNat = 0 from rfl] at hx189_0)
         (try rw [Addr.add_zero'] at hx189_0)
         replace hx189_0 := cel HB hx189_0
         replace p189 := eq_true p189
         replace q189 := eq_true q189
         refine start_ (n := 10) (S := fun w' => w'.cell? ⟨gb181, 0, none⟩ = some (.slice A0_0 l0_0.length c0_0) ∧ w'.cell? ad189 = some (.int .i64 (rd l1 0))) (ds := []) #[false, false, false, false, false, false, false, false, false, false] (by kernel_rfl) rfl rfl ⟨(blk_cell BK181.out 0).trans rfl, (cel HB hw189_0)⟩ (fun hHeld => ?_); refine with_tabW spec_l6Search.tab5 spec_l6Search.bits5 (fun HT_ HW_ => ?_)
         generalize w57.drew = w58 at BK181 HB hx189_0 hHeld ⊢
         refine pure_ (i := 1) (N := some 34) (v := ?_) (a' := ?_) #[false, true, false, false, false, false, false, false, false, false] rfl rfl (any_of HT_.out (by kernel_rfl)) (fun _ _ _ h => h) (Or.inl ⟨by rfl, ?_⟩) ?_ ?_
         rotate_left
         ·intro w'
          go_simp
          with_reducible rfl
         rotate_left
         ·simp only [Act.put, List.setIfInBounds_toArray, List.set_cons_zero, List.set_cons_succ, i64_w, i32_w]
          rfl
         refine pure_ (i := 2) (N := some 35) (v := ?_) (a' := ?_) #[false, true, true, false, false, false, false, false, false, false] rfl rfl (any_of HT_.out (by kernel_rfl)) (fun _ _ _ h => h) (Or.inl ⟨by rfl, ?_⟩) ?_ ?_
         rotate_left
         ·intro w'
          go_simp
          with_reducible rfl
         rotate_left
         ·simp only [Act.put, List.setIfInBounds_toArray, List.set_cons_zero, List.set_cons_succ, i64_w, i32_w]
          rfl
         refine take_ (i := 0) (N := some 33) (v := ?_) (a' := ?_) #[true, true, true, false, false, false, false, false, false, false] rfl rfl (take_ofW HT_.out HW_.out (by kernel_rfl)) (fun _ _ _ h => h) (Or.inl ⟨by rfl, ?_⟩) hHeld ?_ ?_
         rotate_left
         ·rintro w' ⟨s0, s1⟩
          go_simp
          with_reducible rfl
         rotate_left
         ·simp only [Act.put, List.setIfInBounds_toArray, List.set_cons_zero, List.set_cons_succ, i64_w, i32_w]
          rfl
         refine take_ (i := 3) (N := some 36) (v := ?_) (a' := ?_) #[true, true, true, true, false, false, false, false, false, false] rfl rfl (take_ofW HT_.out HW_.out (by kernel_rfl)) (fun _ _ _ h => h) (Or.inl ⟨by rfl, ?_⟩) hHeld ?_ ?_
         rotate_left
         ·rintro w' ⟨s0, s1⟩
          go_simp
          with_reducible rfl
         rotate_left
         ·simp only [Act.put, List.setIfInBounds_toArray, List.set_cons_zero, List.set_cons_succ, i64_w, i32_w]
          rfl
         refine one_ (i := 4) (N := some 37) #[true, true, true, true, true, false, false, false, false, false] rfl rfl (one_of HT_.out (by kernel_rfl)) (by decide) (fun K hK => ?_)
         refine goes_ Tryd.func43 (by kernel_rfl) rfl #[.agg #[.slice A0_0 l0_0.length c0_0], .int .i64 (rd l1 0)] (by rfl) rfl rfl gmp ?_
         with_reducible refine (spec_l5Find.calls k _ _ l0_0 (rd l1 0) t190 t191 _ ?side1 ?side2 A16.out).mono ?_
         (case side1 => exact cdl (Kd.C_below HR0_0.out HB.out))
         (case side2 => exact HC0_0.out)
         rintro e w59 ⟨rfl, hb⟩
         refine ⟨_, rfl, ?_⟩
         have n0_ := Aside0.mk (blk_below (g := gb181) (o := .cells #[.slice A0_0 l0_0.length c0_0] 30 (0, 0)) (bkl BK181) hb)
         have n1_ := Aside0.mk (below_step (bel1 HB GE181) hb)
         clear BK181
         clear HB
         have BK181 := n0_
         have HB := n1_
         clear n0_ n1_
         (try clear hb)
         (try clear hb2)
         (try clear hk)
         (try clear hi)
         refine hK.out _ _ ⟨(blk_cell BK181.out 0).trans rfl, (cel HB hw189_0)⟩ (fun hHeld => ?_)
         clear hK K
         refine norm_ (a' := ?_) ?_ ?_
         rotate_left
         ·show Act.put _ (some 37) _ = _
          simp only [Act.put, List.setIfInBounds_toArray, List.set_cons_zero, List.set_cons_succ, i64_w, i32_w]
          rfl
         refine pure_ (i := 5) (N := some 32) (v := ?_) (a' := ?_) #[true, true, true, true, true, true, false, false, false, false] rfl rfl (any_of HT_.out (by kernel_rfl)) (fun _ _ _ h => h) (Or.inl ⟨by rfl, ?_⟩) ?_ ?_
         rotate_left
         ·intro w'
          go_simp
          with_reducible rfl
         rotate_left
         ·simp only [Act.put, List.setIfInBounds_toArray, List.set_cons_zero, List.set_cons_succ, i64_w, i32_w]
          rfl
         refine pure_ (i := 6) (N := some 38) (v := ?_) (a' := ?_) #[true, true, true, true, true, true, true, false, false, false] rfl rfl (any_of HT_.out (by kernel_rfl)) (fun _ _ _ h => h) (Or.inl ⟨by rfl, ?_⟩) ?_ ?_
         rotate_left
         ·intro w'
          go_simp
          with_reducible rfl
         rotate_left
         ·simp only [Act.put, List.setIfInBounds_toArray, List.set_cons_zero, List.set_cons_succ, i64_w, i32_w]
          rfl
         refine pure_ (i := 7) (N := some 39) (v := ?_) (a' := ?_) #[true, true, true, true, true, true, true, true, false, false] rfl rfl (any_of HT_.out (by kernel_rfl)) (fun _ _ _ h => h) (Or.inl ⟨by rfl, ?_⟩) ?_ ?_
         rotate_left
         ·intro w'
          go_simp
          with_reducible rfl
         rotate_left
         ·simp only [Act.put, List.setIfInBounds_toArray, List.set_cons_zero, List.set_cons_succ, i64_w, i32_w]
          rfl
         refine pure_ (i := 8) (N := some 8) (v := ?_) (a' := ?_) #[true, true, true, true, true, true, true, true, true, false] rfl rfl (any_of HT_.out (by kernel_rfl)) (fun _ _ _ h => h) (Or.inl ⟨by rfl, ?_⟩) ?_ ?_
         rotate_left
         ·intro w'
          go_simp
          with_reducible rfl
         rotate_left
         ·simp only [Act.put, List.setIfInBounds_toArray, List.set_cons_zero, List.set_cons_succ, i64_w, i32_w]
          rfl
         refine pure_ (i := 9) (N := some 9) (v := ?_) (a' := ?_) #[true, true, true, true, true, true, true, true, true, true] rfl rfl (any_of HT_.out (by kernel_rfl)) (fun _ _ _ h => h) (Or.inl ⟨by rfl, ?_⟩) ?_ ?_
         rotate_left
         ·intro w'
          go_simp
          with_reducible rfl
         rotate_left
         ·simp only [Act.put, List.setIfInBounds_toArray, List.set_cons_zero, List.set_cons_succ, i64_w, i32_w]
          rfl
         refine done_ (done_of HT_.out (by kernel_rfl)) ?_
         try go_wp2
         have n0_ := Aside0.mk (blk_drew BK181.out)
         have n1_ := Aside0.mk (below_drew1 HB.out)
         clear BK181
         clear HB
         have BK181 := n0_
         have HB := n1_
         clear n0_ n1_
         have p192 : 0 ≤ (t190 : Int) := oda
         have q192 : t190 < (l0_0.length : Int) := oda
         obtain ⟨ad192, A192_0, c192_0, e192, hx192_0, hl192_0, hi192_0⟩ := at_L1 HR0_0.out t190 p192 q192
         have hw192_0 := hx192_0
         cases e192
         replace hx192_0 := cel HB hx192_0
         have HR192_0 := Aside0.mk hi192_0
         have HC192_0 := Aside0.mk hl192_0
         clear hi192_0 hl192_0
         replace p192 := eq_true p192
         replace q192 := eq_true q192
         have p193 : 0 ≤ (t190 : Int) := oda
         have q193 : t190 < (l0_0.length : Int) := oda
         obtain ⟨ad193, A193_0, c193_0, e193, hx193_0, hl193_0, hi193_0⟩ := at_L1 HR0_0.out t190 p193 q193
         have hw193_0 := hx193_0
         obtain rfl : ad192 = ad193 := (by injection e193)
         replace hx193_0 := cel HB hx193_0
         have HR193_0 := Aside0.mk hi193_0
         have HC193_0 := Aside0.mk hl193_0
         clear hi193_0 hl193_0
         replace p193 := eq_true p193
         replace q193 := eq_true q193
         have ea_ := Option.some.inj (hx192_0.symm.trans hx193_0)
         injection ea_ with ea_ en_ ec_
         subst ea_
         subst ec_
         clear en_
         have p194 : 0 ≤ ((ji19) : Int) := oda
         have q194 : (ji19) < ((rd_L1 l0_0 t190).length : Int) := oda
         obtain ⟨ad194, e194, hx194_0⟩ := Kd.at_int HR192_0.out (ji19) p194 q194
         have hw194_0 := hx194_0
         cases e194
         replace hx194_0 := cel HB hx194_0
         replace p194 := eq_true p194
         replace q194 := eq_true q194
         refine start_ (n := 15) (S := fun w' => w'.cell? ⟨gb181, 0, none⟩ = some (.slice (some ad192) l0_0.length c0_0) ∧ w'.cell? (ad192.add (t190).toNat) = some (.slice (some ad194) (rd_L1 l0_0 t190).length c192_0) ∧ w'.cell? (ad192.add (t190).toNat) = some (.slice (some ad194) (rd_L1 l0_0 t190).length c192_0) ∧ w'.cell? (ad194.add ((ji19)).toNat) = some (.int .i64 (rd (rd_L1 l0_0 t190) (ji19)))) (ds := []) #[false, false, false, false, false, false, false, false, false, false, false, false, false, false, false] (by kernel_rfl) rfl rfl ⟨(blk_cell BK181.out 0).trans rfl, (cel HB hw192_0), (cel HB hw193_0), (cel HB hw194_0)⟩ (fun hHeld => ?_); refine with_tabW spec_l6Search.tab6 spec_l6Search.bits6 (fun HT_ HW_ => ?_)
         generalize w59.drew = w60 at BK181 HB HR192_0 HR193_0 hx192_0 hx193_0 hx194_0 hHeld ⊢
         refine pure_ (i := 0) (N := some 40) (v := ?_) (a' := ?_) #[true, false, false, false, false, false, false, false, false, false, false, false, false, false, false] rfl rfl (any_of HT_.out (by kernel_rfl)) (fun _ _ _ h => h) (Or.inl ⟨by rfl, ?_⟩) ?_ ?_
         rotate_left
         ·intro w'
          go_simp
          with_reducible rfl
         rotate_left
         ·simp only [Act.put, List.setIfInBounds_toArray, List.set_cons_zero, List.set_cons_succ, i64_w, i32_w]
          rfl
         refine pure_ (i := 2) (N := some 42) (v := ?_) (a' := ?_) #[true, false, true, false, false, false, false, false, false, false, false, false, false, false, false] rfl rfl (any_of HT_.out (by kernel_rfl)) (fun _ _ _ h => h) (Or.inl ⟨by rfl, ?_⟩) ?_ ?_
         rotate_left
         ·intro w'
          go_simp
          with_reducible rfl
         rotate_left
         ·simp only [Act.put, List.setIfInBounds_toArray, List.set_cons_zero, List.set_cons_succ, i64_w, i32_w]
          rfl
         refine pure_ (i := 5) (N := some 45) (v := ?_) (a' := ?_) #[true, false, true, false, false, true, false, false, false, false, false, false, false, false, false] rfl rfl (any_of HT_.out (by kernel_rfl)) (fun _ _ _ h => h) (Or.inl ⟨by rfl, ?_⟩) ?_ ?_
         rotate_left
         ·intro w'
          go_simp
          with_reducible rfl
         rotate_left
         ·simp only [Act.put, List.setIfInBounds_toArray, List.set_cons_zero, List.set_cons_succ, i64_w, i32_w]
          rfl
         refine pure_ (i := 7) (N := some 47) (v := ?_) (a' := ?_) #[true, false, true, false, false, true, false, true, false, false, false, false, false, false, false] rfl rfl (any_of HT_.out (by kernel_rfl)) (fun _ _ _ h => h) (Or.inl ⟨by rfl, ?_⟩) ?_ ?_
         rotate_left
         ·intro w'
          go_simp
          with_reducible rfl
         rotate_left
         ·simp only [Act.put, List.setIfInBounds_toArray, List.set_cons_zero, List.set_cons_succ, i64_w, i32_w]
          rfl
         refine take_ (i := 1) (N := some 41) (v := ?_) (a' := ?_) #[true, true, true, false, false, true, false, true, false, false, false, false, false, false, false] rfl rfl (take_ofW HT_.out HW_.out (by kernel_rfl)) (fun _ _ _ h => h) (Or.inl ⟨by rfl, ?_⟩) hHeld ?_ ?_
         rotate_left
         ·rintro w' ⟨s0, s1, s2, s3⟩
          go_simp
          with_reducible rfl
         rotate_left
         ·simp only [Act.put, List.setIfInBounds_toArray, List.set_cons_zero, List.set_cons_succ, i64_w, i32_w]
          rfl
         refine pure_ (i := 3) (N := some 43) (v := ?_) (a' := ?_) #[true, true, true, true, false, true, false, true, false, false, false, false, false, false, false] rfl rfl (any_of HT_.out (by kernel_rfl)) (fun _ _ _ h => h) (Or.inl ⟨by rfl, ?_⟩) ?_ ?_
         rotate_left
         ·intro w'
          go_simp
          with_reducible rfl
         rotate_left
         ·simp only [Act.put, List.setIfInBounds_toArray, List.set_cons_zero, List.set_cons_succ, i64_w, i32_w]
          rfl
         refine take_ (i := 4) (N := some 44) (v := ?_) (a' := ?_) #[true, true, true, true, true, true, false, true, false, false, false, false, false, false, false] rfl rfl (take_ofW HT_.out HW_.out (by kernel_rfl)) (fun _ _ _ h => h) (Or.inl ⟨by rfl, ?_⟩) hHeld ?_ ?_
         rotate_left
         ·rintro w' ⟨s0, s1, s2, s3⟩
          go_simp
          with_reducible rfl
         rotate_left
         ·simp only [Act.put, List.setIfInBounds_toArray, List.set_cons_zero, List.set_cons_succ, i64_w, i32_w]
          rfl
         refine take_ (i := 6) (N := some 46) (v := ?_) (a' := ?_) #[true, true, true, true, true, true, true, true, false, false, false, false, false, false, false] rfl rfl (take_ofW HT_.out HW_.out (by kernel_rfl)) (fun _ _ _ h => h) (Or.inl ⟨by rfl, ?_⟩) hHeld ?_ ?_
         rotate_left
         ·rintro w' ⟨s0, s1, s2, s3⟩
          go_simp
          with_reducible rfl
         rotate_left
         ·simp only [Act.put, List.setIfInBounds_toArray, List.set_cons_zero, List.set_cons_succ, i64_w, i32_w]
          rfl
         refine pure_ (i := 8) (N := some 48) (v := ?_) (a' := ?_) #[true, true, true, true, true, true, true, true, true, false, false, false, false, false, false] rfl rfl (any_of HT_.out (by kernel_rfl)) (fun _ _ _ h => h) (Or.inl ⟨by rfl, ?_⟩) ?_ ?_
         rotate_left
         ·intro w'
          go_simp
          with_reducible rfl
         rotate_left
         ·simp only [Act.put, List.setIfInBounds_toArray, List.set_cons_zero, List.set_cons_succ, i64_w, i32_w]
          rfl
         refine take_ (i := 9) (N := some 49) (v := ?_) (a' := ?_) #[true, true, true, true, true, true, true, true, true, true, false, false, false, false, false] rfl rfl (take_ofW HT_.out HW_.out (by kernel_rfl)) (fun _ _ _ h => h) (Or.inl ⟨by rfl, ?_⟩) hHeld ?_ ?_
         rotate_left
         ·rintro w' ⟨s0, s1, s2, s3⟩
          go_simp
          with_reducible rfl
         rotate_left
         ·simp only [Act.put, List.setIfInBounds_toArray, List.set_cons_zero, List.set_cons_succ, i64_w, i32_w]
          rfl
         refine pure_ (i := 10) (N := some 50) (v := ?_) (a' := ?_) #[true, true, true, true, true, true, true, true, true, true, true, false, false, false, false] rfl rfl (any_of HT_.out (by kernel_rfl)) (fun _ _ _ h => h) (Or.inl ⟨by rfl, ?_⟩) ?_ ?_
         rotate_left
         ·intro w'
          go_simp
          with_reducible rfl
         rotate_left
         ·simp only [Act.put, List.setIfInBounds_toArray, List.set_cons_zero, List.set_cons_succ, i64_w, i32_w]
          rfl
         refine pure_ (i := 11) (N := some 51) (v := ?_) (a' := ?_) #[true, true, true, true, true, true, true, true, true, true, true, true, false, false, false] rfl rfl (any_of HT_.out (by kernel_rfl)) (fun _ _ _ h => h) (Or.inl ⟨by rfl, ?_⟩) ?_ ?_
         rotate_left
         ·intro w'
          go_simp
          with_reducible rfl
         rotate_left
         ·simp only [Act.put, List.setIfInBounds_toArray, List.set_cons_zero, List.set_cons_succ, i64_w, i32_w]
          rfl
         refine pure_ (i := 12) (N := some 52) (v := ?_) (a' := ?_) #[true, true, true, true, true, true, true, true, true, true, true, true, true, false, false] rfl rfl (any_of HT_.out (by kernel_rfl)) (fun _ _ _ h => h) (Or.inl ⟨by rfl, ?_⟩) ?_ ?_
         rotate_left
         ·intro w'
          go_simp
          with_reducible rfl
         rotate_left
         ·simp only [Act.put, List.setIfInBounds_toArray, List.set_cons_zero, List.set_cons_succ, i64_w, i32_w]
          rfl
         refine take_ (i := 13) (N := some 53) (v := ?_) (a' := ?_) #[true, true, true, true, true, true, true, true, true, true, true, true, true, true, false] rfl rfl (take_ofW HT_.out HW_.out (by kernel_rfl)) (fun _ _ _ h => h) (Or.inl ⟨by rfl, ?_⟩) hHeld ?_ ?_
         rotate_left
         ·rintro w' ⟨s0, s1, s2, s3⟩
          go_simp
          with_reducible rfl
         rotate_left
         ·simp only [Act.put, List.setIfInBounds_toArray, List.set_cons_zero, List.set_cons_succ, i64_w, i32_w]
          rfl
         refine pure_ (i := 14) (N := some 10) (v := ?_) (a' := ?_) #[true, true, true, true, true, true, true, true, true, true, true, true, true, true, true] rfl rfl (any_of HT_.out (by kernel_rfl)) (fun _ _ _ h => h) (Or.inl ⟨by rfl, ?_⟩) ?_ ?_
         rotate_left
         ·intro w'
          go_simp
          with_reducible rfl
         rotate_left
         ·simp only [Act.put, List.setIfInBounds_toArray, List.set_cons_zero, List.set_cons_succ, i64_w, i32_w]
          rfl
         refine done_ (done_of HT_.out (by kernel_rfl)) ?_
         have hcz61_0 : w60.cell? ⟨gb181, 0, none⟩ = some (.slice (some ad192) l0_0.length c0_0) := (blk_cell BK181.out 0).trans rfl
         have hfz61_0 := blk_frozen BK181.out 0
         have p195 : 0 ≤ (t190 : Int) := oda
         have q195 : t190 < (l0_0.length : Int) := oda
         obtain ⟨ad195, A195_0, c195_0, e195, hx195_0, hl195_0, hi195_0⟩ := at_L1 HR0_0.out t190 p195 q195
         obtain rfl : ad192 = ad195 := (by injection e195)
         replace hx195_0 := cel HB hx195_0
         have HR195_0 := Aside0.mk hi195_0
         have HC195_0 := Aside0.mk hl195_0
         clear hi195_0 hl195_0
         replace p195 := eq_true p195
         replace q195 := eq_true q195
         have ea_ := Option.some.inj (hx192_0.symm.trans hx195_0)
         injection ea_ with ea_ en_ ec_
         subst ea_
         subst ec_
         clear en_
         try go_wp2
         go_loopg [16] k (fun kq v16 w' => ∃ (x16_1 : Int), v16 = .int .i64 x16_1 ∧ Aside0 (spec_l6Search.l0 kq l1 a2 (rd (rd_L1 l0_0 t190) (ji19)) x16_1 l0_0 = some (r1, r2)) ∧ Aside0 (kq ≤ k) ∧ Aside0 (w'.heap[gb181]? = some (.cells #[(.slice (some ad192) l0_0.length c0_0)] 30 (0, 0))) ∧ Aside0 (Below w.heap.size w w'))
         case atStart => exact ⟨(0), (by first | rfl | (simp; done) | (simp [*]; done)), H', ⟨Nat.le_refl _⟩, ⟨bkl BK181⟩, ⟨bel1 HB GE181⟩⟩
         case round =>
          clear H'
          try clear c1
          try clear p1
          try clear q1
          try clear hx1
          try clear qi1
          try clear c2
          try clear p2
          try clear c3
          try clear c4
          try clear p18
          try clear q18
          try clear hx18
          try clear qi18
          try clear c19
          try clear p19
          try clear q19
          try clear hx19
          try clear c22
          try clear c22b0
          try clear c22b1
          try clear c24
          try clear c26
          try clear c33
          try clear c34
          try clear c35
          try clear c43
          try clear c44
          try clear c45
          try clear hcz33_0
          try clear hcz36_0
          try clear hcz36_1
          try clear hcz38_0
          try clear hcz39_0
          try clear hcz39_1
          try clear hcz45_0
          try clear hcz50_0
          try clear hcz50_1
          try clear hcz56_0
          try clear hcz61_0
          try clear hfz33_0
          try clear hfz36_0
          try clear hfz36_1
          try clear hfz38_0
          try clear hfz39_0
          try clear hfz39_1
          try clear hfz45_0
          try clear hfz50_0
          try clear hfz50_1
          try clear hfz56_0
          try clear hfz61_0
          try clear hx189_0
          try clear hx192_0
          try clear hx193_0
          try clear hx194_0
          try clear hx195_0
          try clear p189
          try clear p192
          try clear p193
          try clear p194
          try clear p195
          try clear q189
          try clear q192
          try clear q193
          try clear q194
          try clear q195
          obtain ⟨x16_1, rfl, HA, HK1, BK181, HB⟩ := hrel
          cases gk with
          | zero => exact absurd HA.out (by simp [spec_l6Search.l0])
          | succ k1 =>
           have H := HA.out
           clear HA
           simp only [spec_l6Search.l0] at H
           have HC62 := Aside0.mk H
           clear H
           go_upto_region 13 with (fail)
           go_cut [92] (fun v92 wc => ∃ (kq : Nat) (x92_61 : Bool), v92 = .bool x92_61 ∧ Aside0 (spec_l6Search.j1 kq l1 a2 (rd (rd_L1 l0_0 t190) (ji19)) x16_1 x92_61 l0_0 = some (r1, r2)) ∧ Aside0 (kq ≤ k1) ∧ Aside0 (wc.heap[gb181]? = some (.cells #[(.slice (some ad192) l0_0.length c0_0)] 30 (0, 0))) ∧ Aside0 (Below w.heap.size w wc))
           case first =>
            have H := HC62.out
            clear HC62
            by_cases c63 : x16_1 < (l0_0.length : Int)
            ·rw [if_pos c63] at H
             have c63b0 : decide (x16_1 < (l0_0.length : Int)) = true := decide_eq_true c63
             clear c63
             (first | rw [c63b0] | (simp only [i64_w, i32_w]; rw [c63b0]) | skip)
             have H' := Aside0.mk H
             clear H
             have hcz64_0 : wr.cell? ⟨gb181, 0, none⟩ = some (.slice (some ad192) l0_0.length c0_0) := (blk_cell BK181.out 0).trans rfl
             have hfz64_0 := blk_frozen BK181.out 0
             go_wp2
             go_meet
             case rel => exact ⟨_, (decide (a2 > 0)), (by first | rfl | (simp; done) | (simp [*]; done)), H', ⟨by have := HK1.out; first | omega | exact Nat.le_refl _⟩, ⟨bkl BK181⟩, ⟨bel1 HB GE181⟩⟩
            ·rw [if_neg c63] at H
             have c63b0 : decide (x16_1 < (l0_0.length : Int)) = false := decide_eq_false c63
             clear c63
             (first | rw [c63b0] | (simp only [i64_w, i32_w]; rw [c63b0]) | skip)
             have H' := Aside0.mk H
             clear H
             have hcz65_0 : wr.cell? ⟨gb181, 0, none⟩ = some (.slice (some ad192) l0_0.length c0_0) := (blk_cell BK181.out 0).trans rfl
             have hfz65_0 := blk_frozen BK181.out 0
             go_wp2
             go_meet
             case rel => exact ⟨_, (false), (by first | rfl | (simp; done) | (simp [*]; done)), H', ⟨by have := HK1.out; first | omega | exact Nat.le_refl _⟩, ⟨bkl BK181⟩, ⟨bel1 HB GE181⟩⟩
           case rest =>
            clear HC62
            try clear c1
            try clear p1
            try clear q1
            try clear hx1
            try clear qi1
            try clear c2
            try clear p2
            try clear c3
            try clear c4
            try clear c6
            try clear p18
            try clear q18
            try clear hx18
            try clear qi18
            try clear c19
            try clear p19
            try clear q19
            try clear hx19
            try clear c22
            try clear c22b0
            try clear c22b1
            try clear c24
            try clear c26
            try clear c33
            try clear c34
            try clear c35
            try clear c43
            try clear c44
            try clear c45
            try clear c63
            try clear c63b0
            try clear hcz33_0
            try clear hcz36_0
            try clear hcz36_1
            try clear hcz38_0
            try clear hcz39_0
            try clear hcz39_1
            try clear hcz45_0
            try clear hcz50_0
            try clear hcz50_1
            try clear hcz56_0
            try clear hcz61_0
            try clear hcz64_0
            try clear hcz65_0
            try clear hfz33_0
            try clear hfz36_0
            try clear hfz36_1
            try clear hfz38_0
            try clear hfz39_0
            try clear hfz39_1
            try clear hfz45_0
            try clear hfz50_0
            try clear hfz50_1
            try clear hfz56_0
            try clear hfz61_0
            try clear hfz64_0
            try clear hfz65_0
            try clear hx189_0
            try clear hx192_0
            try clear hx193_0
            try clear hx194_0
            try clear hx195_0
            try clear p1
            try clear p18
            try clear p189
            try clear p19
            try clear p192
            try clear p193
            try clear p194
            try clear p195
            try clear p2
            try clear q1
            try clear q18
            try clear q189
            try clear q19
            try clear q192
            try clear q193
            try clear q194
            try clear q195
            obtain ⟨kq, x92_61, rfl, HA, HJ61, BK181, HB⟩ := hcut
            cases kq with
            | zero => exact absurd HA.out (by simp [spec_l6Search.j1])
            | succ kj61 =>
             have H := HA.out
             clear HA
             simp only [spec_l6Search.j1] at H
             by_cases c66 : x92_61 = true
             ·subst c66
              have H1 : ((spec_l6Step.f kj61 l0_0 (rd (rd_L1 l0_0 t190) (ji19)) x16_1).bind fun bt217 => (if bt217.2 = true then ((spec_l6Search.f kj61 bt217.1 l1 (wrap64 (a2 - 1))).bind fun bt222 => (if bt222.2 = true then ((some (([(⟨(rd (rd_L1 l0_0 t190) (ji19)), x16_1⟩ : S47)] : List (S47)) : List (S47))).bind fun y226 => (if y226.length + bt222.1.length < 8796093022208 then (some ((y226 ++ bt222.1), true)) else (none))) else (spec_l6Search.l0 kj61 l1 a2 (rd (rd_L1 l0_0 t190) (ji19)) (wrap64 (x16_1 + 1)) l0_0))) else (spec_l6Search.l0 kj61 l1 a2 (rd (rd_L1 l0_0 t190) (ji19)) (wrap64 (x16_1 + 1)) l0_0))) = some (r1, r2) := by rw [if_pos rfl] at H; exact H
              clear H
              have H := H1
              clear H1
              replace H := Option.bind_eq_some_iff.mp H
              obtain ⟨⟨t217, t220⟩, A670, H⟩ := H
              replace H : (if t220 = true then ((spec_l6Search.f kj61 t217 l1 (wrap64 (a2 - 1))).bind fun bt222 => (if bt222.2 = true then ((some (([(⟨(rd (rd_L1 l0_0 t190) (ji19)), x16_1⟩ : S47)] : List (S47)) : List (S47))).bind fun y226 => (if y226.length + bt222.1.length < 8796093022208 then (some ((y226 ++ bt222.1), true)) else (none))) else (spec_l6Search.l0 kj61 l1 a2 (rd (rd_L1 l0_0 t190) (ji19)) (wrap64 (x16_1 + 1)) l0_0))) else (spec_l6Search.l0 kj61 l1 a2 (rd (rd_L1 l0_0 t190) (ji19)) (wrap64 (x16_1 + 1)) l0_0)) = some (r1, r2) := H
              have A67 := Aside0.mk A670
              clear A670
              by_cases c68 : t220 = true
              ·subst c68
               have H1 : ((spec_l6Search.f kj61 t217 l1 (wrap64 (a2 - 1))).bind fun bt222 => (if bt222.2 = true then ((some (([(⟨(rd (rd_L1 l0_0 t190) (ji19)), x16_1⟩ : S47)] : List (S47)) : List (S47))).bind fun y226 => (if y226.length + bt222.1.length < 8796093022208 then (some ((y226 ++ bt222.1), true)) else (none))) else (spec_l6Search.l0 kj61 l1 a2 (rd (rd_L1 l0_0 t190) (ji19)) (wrap64 (x16_1 + 1)) l0_0))) = some (r1, r2) := by rw [if_pos rfl] at H; exact H
               clear H
               have H := H1
               clear H1
               replace H := Option.bind_eq_some_iff.mp H
               obtain ⟨⟨t222, t225⟩, A690, H⟩ := H
               replace H : (if t225 = true then ((some (([(⟨(rd (rd_L1 l0_0 t190) (ji19)), x16_1⟩ : S47)] : List (S47)) : List (S47))).bind fun y226 => (if y226.length + t222.length < 8796093022208 then (some ((y226 ++ t222), true)) else (none))) else (spec_l6Search.l0 kj61 l1 a2 (rd (rd_L1 l0_0 t190) (ji19)) (wrap64 (x16_1 + 1)) l0_0)) = some (r1, r2) := H
               have A69 := Aside0.mk A690
               clear A690
               by_cases c70 : t225 = true
               ·subst c70
                have H1 : ((some (([(⟨(rd (rd_L1 l0_0 t190) (ji19)), x16_1⟩ : S47)] : List (S47)) : List (S47))).bind fun y226 => (if y226.length + t222.length < 8796093022208 then (some ((y226 ++ t222), true)) else (none))) = some (r1, r2) := by rw [if_pos rfl] at H; exact H
                clear H
                have H := H1
                clear H1
                obtain ⟨y226, hy226⟩ : ∃ y_ : List (S47), y_ = (([(⟨(rd (rd_L1 l0_0 t190) (ji19)), x16_1⟩ : S47)] : List (S47))) := ⟨_, rfl⟩
                replace H : (if y226.length + t222.length < 8796093022208 then (some ((y226 ++ t222), true)) else (none)) = some (r1, r2) := by first | (rw [hy226]; with_reducible exact H) | (have H2_ := (Option.bind_some _ _).symm.trans H; rw [hy226]; with_reducible exact H2_) | (have H2_ := (Option.bind_some _ _).symm.trans H; with_reducible exact H2_) | with_reducible exact H | (rw [hy226]; exact H) | exact H
                have Ny226 := Aside0.mk hy226
                clear hy226
                by_cases c71 : y226.length + t222.length < 8796093022208
                ·rw [if_pos c71] at H
                 have LMc71 := Aside0.mk c71
                 clear c71
                 obtain ⟨y229, hy229⟩ : ∃ y_ : List (S47), y_ = (y226 ++ t222) := ⟨_, rfl⟩
                 replace H : (some (y229, true)) = some (r1, r2) := by first | (rw [hy229]; with_reducible exact H) | (have H2_ := (Option.bind_some _ _).symm.trans H; rw [hy229]; with_reducible exact H2_) | (have H2_ := (Option.bind_some _ _).symm.trans H; with_reducible exact H2_) | with_reducible exact H | (rw [hy229]; exact H) | exact H
                 have Ny229 := Aside0.mk hy229
                 clear hy229
                 simp only [Option.some.injEq, Prod.mk.injEq] at H
                 obtain ⟨rfl, rfl⟩ := H
                 go_wp2_with (first | ((with_reducible refine gate_dst (N := 17) rfl ?_); refine box_event ?hg (N := 17) ?hd (cs := #[.int .i64 0, .int .i64 0]) (t := 47) ?hr ?_; (case hd => rfl); (case hg => rfl); (case hr => first | (go_simp; done) | (go_simp; rfl)); intro gb216 hg w72 hbox hb; have n0_ := Aside0.mk (blk_below (g := gb181) (o := .cells #[.slice (some ad192) l0_0.length c0_0] 30 (0, 0)) (bkl BK181) hb); have n1_ := Aside0.mk (below_step (bel1 HB GE181) hb); have n2_ := Aside0.mk (hbox); have n3_ := Aside0.mk ((by rw [hg]; exact (below_size (bel1 HB GE181)) : w.heap.size ≤ gb216)); have n4_ := Aside0.mk ((by rw [hg]; exact (below_size (bel1 HB GE181)) : w.heap.size ≤ gb216)); have n5_ := Aside0.mk ((by rw [hg]; exact Nat.ne_of_lt (blk_lt (g := gb181) (o := .cells #[.slice (some ad192) l0_0.length c0_0] 30 (0, 0)) (bkl BK181)) : gb181 ≠ gb216)); have n6_ := Aside0.mk ((by rw [hg]; exact Nat.ne_of_gt (blk_lt (g := gb181) (o := .cells #[.slice (some ad192) l0_0.length c0_0] 30 (0, 0)) (bkl BK181)) : gb216 ≠ gb181)); clear BK181; clear HB; have BK181 := n0_; have HB := n1_; have BK216 := n2_; have GW216 := n3_; have GE216 := n4_; have NB181_216 := n5_; have NB216_181 := n6_; clear n0_ n1_ n2_ n3_ n4_ n5_ n6_; clear hb hbox hg; have hnb73 := NB216_181.out; have hnc73 := NB181_216.out; have hcz74_0 : w72.cell? ⟨gb216, 0, none⟩ = some (.int .i64 0) := (blk_cell BK216.out 0).trans rfl; have hcz74_1 : w72.cell? ⟨gb216, 1, none⟩ = some (.int .i64 0) := (blk_cell BK216.out 1).trans rfl; have hfz74_0 := blk_frozen BK216.out 0; have hfz74_1 := blk_frozen BK216.out 1) | ((with_reducible refine gate_store (t := 47) (p := 17) rfl ?_); refine store_event (t := 47) (p := 17) (v := ?vo_w75) (w1 := ((w72.setCell ⟨gb216, 0, none⟩ (.int .i64 (rd (rd_L1 l0_0 t190) (ji19)))).setCell ⟨gb216, 1, none⟩ (.int .i64 x16_1))) ?hg ?ho ?hn ?hr ?_; (case ho => rfl); (case hg => rfl); (case hn => rfl); (case hr => first | (go_simp; done) | (go_simp; rfl)); intro w75 hw; have n0_ : Aside0 (w75.heap[gb181]? = some (.cells #[.slice (some ad192) l0_0.length c0_0] 30 (0, 0))) := ⟨(by rw [hw]; exact (by (with_reducible repeat (first | refine blk_drewN ?_ _ | refine blk_drew ?_ | refine blk_alloc ?_ _)); refine blk_far ?_ NB181_216.out _; (with_reducible repeat (first | refine blk_drewN ?_ _ | refine blk_drew ?_ | refine blk_alloc ?_ _)); refine blk_far ?_ NB181_216.out _; (with_reducible repeat (first | refine blk_drewN ?_ _ | refine blk_drew ?_ | refine blk_alloc ?_ _)); exact BK181.out))⟩; have n1_ : Aside0 (w75.heap[gb216]? = some (.cells #[.int .i64 (rd (rd_L1 l0_0 t190) (ji19)), .int .i64 x16_1] 47 (0, 0))) := ⟨(by rw [hw]; exact (by (with_reducible repeat (first | refine blk_drewN ?_ _ | refine blk_drew ?_ | refine blk_alloc ?_ _)); refine blk_put (cs := #[.int .i64 (rd (rd_L1 l0_0 t190) (ji19)), .int .i64 0]) ?_ 1 _ rfl; (with_reducible repeat (first | refine blk_drewN ?_ _ | refine blk_drew ?_ | refine blk_alloc ?_ _)); refine blk_put (cs := #[.int .i64 0, .int .i64 0]) ?_ 0 _ rfl; (with_reducible repeat (first | refine blk_drewN ?_ _ | refine blk_drew ?_ | refine blk_alloc ?_ _)); exact BK216.out))⟩; have n2_ : Aside0 (Below w.heap.size w w75) := ⟨(by rw [hw]; exact (bel2 HB GE181 GE216))⟩; clear hw; clear BK181; clear BK216; clear HB; have BK181 := n0_; have BK216 := n1_; have HB := n2_; clear n0_ n1_ n2_; have hcz76_0 : w75.cell? ⟨gb181, 0, none⟩ = some (.slice (some ad192) l0_0.length c0_0) := (blk_cell BK181.out 0).trans rfl; have hfz76_0 := blk_frozen BK181.out 0; have hcz77_0 : w75.cell? ⟨gb216, 0, none⟩ = some (.int .i64 (rd (rd_L1 l0_0 t190) (ji19))) := (blk_cell BK216.out 0).trans rfl; have hcz77_1 : w75.cell? ⟨gb216, 1, none⟩ = some (.int .i64 x16_1) := (blk_cell BK216.out 1).trans rfl; have hfz77_0 := blk_frozen BK216.out 0; have hfz77_1 := blk_frozen BK216.out 1) | ((with_reducible refine gate_callee (f := 45) rfl ?_); refine goesL_ (some 101) rfl rfl Tryd.func45 (by kernel_rfl) rfl #[.agg #[.slice (some ad192) l0_0.length c0_0], .agg #[.int .i64 (rd (rd_L1 l0_0 t190) (ji19)), .int .i64 x16_1]] rfl (by (try simp only [List.map_toArray, List.map_cons, List.map_nil]); first | done | (simp only [hji19]; rfl) | rfl | (simp only [List.length_drop, List.length_take]; rfl)) ?_; (with_reducible refine (spec_l6Step.calls kj61 (fun k_ => k_ < w.heap.size) _ _ l0_0 (rd (rd_L1 l0_0 t190) (ji19)) x16_1 t217 true _ ?side1 A67.out).mono ?_); (case side1 => exact Kd.V_mk HC0_0.out (Kd.F_below (Kd.C_F (Kd.heap_slice 3 (Kd.heap_int .i64)) HR0_0.out) (bel2 HB GE181 GE216))); rintro e w78 ⟨v218, rfl, ho0, hb⟩; refine ⟨_, rfl, ?_⟩; have n0_ := Aside0.mk (Kd.V_lower (Kd.V_mono (ok' := fun k_ => k_ ≠ gb181 ∧ k_ ≠ gb216) ho0 (fun k_ hk_ => ⟨Or.elim hk_ (fun hs_ => fun e_ => Nat.not_le.2 hs_ (by rw [e_]; exact GW181.out)) (fun hn_ => (Kd.freshB (g := gb181) (o := .cells #[.slice (some ad192) l0_0.length c0_0] 30 (0, 0)) (bkl BK181) k_ hn_)), Or.elim hk_ (fun hs_ => fun e_ => Nat.not_le.2 hs_ (by rw [e_]; exact GW216.out)) (fun hn_ => (Kd.freshB (g := gb216) (o := .cells #[.int .i64 (rd (rd_L1 l0_0 t190) (ji19)), .int .i64 x16_1] 47 (0, 0)) (bkl BK216) k_ hn_))⟩)) (below_size (bel2 HB GE181 GE216))); have n1_ := Aside0.mk (blk_below (g := gb181) (o := .cells #[.slice (some ad192) l0_0.length c0_0] 30 (0, 0)) (bkl BK181) hb); have n2_ := Aside0.mk (blk_below (g := gb216) (o := .cells #[.int .i64 (rd (rd_L1 l0_0 t190) (ji19)), .int .i64 x16_1] 47 (0, 0)) (bkl BK216) hb); have n3_ := Aside0.mk (below_step (bel2 HB GE181 GE216) hb); clear BK181; clear BK216; clear HB; have HO219 := n0_; have BK181 := n1_; have BK216 := n2_; have HB := n3_; clear n0_ n1_ n2_ n3_; (try clear hb); (try clear hb2); (try clear hk); (try clear hi); (try clear ho0)) | ((with_reducible refine gate_dst (N := 18) rfl ?_); refine box_event ?hg (N := 18) ?hd (cs := #[.slice none 0 0]) (t := 30) ?hr ?_; (case hd => rfl); (case hg => rfl); (case hr => first | (go_simp; done) | (go_simp; rfl)); intro gb221 hg w79 hbox hb; have n0_ := Aside0.mk (Kd.V_below (Kd.V_elderB (by (with_reducible repeat (first | apply Kd.V_alloc | apply Kd.V_drewN | apply Kd.V_drew)); exact HO219.out) gb221 (Nat.le_of_eq hg.symm)) hb); have n1_ := Aside0.mk (blk_below (g := gb181) (o := .cells #[.slice (some ad192) l0_0.length c0_0] 30 (0, 0)) (bkl BK181) hb); have n2_ := Aside0.mk (blk_below (g := gb216) (o := .cells #[.int .i64 (rd (rd_L1 l0_0 t190) (ji19)), .int .i64 x16_1] 47 (0, 0)) (bkl BK216) hb); have n3_ := Aside0.mk (below_step (bel2 HB GE181 GE216) hb); have n4_ := Aside0.mk (hbox); have n5_ := Aside0.mk ((by rw [hg]; exact (below_size (bel2 HB GE181 GE216)) : w.heap.size ≤ gb221)); have n6_ := Aside0.mk ((by rw [hg]; exact (below_size (bel2 HB GE181 GE216)) : w.heap.size ≤ gb221)); have n7_ := Aside0.mk ((by rw [hg]; exact Nat.ne_of_lt (blk_lt (g := gb181) (o := .cells #[.slice (some ad192) l0_0.length c0_0] 30 (0, 0)) (bkl BK181)) : gb181 ≠ gb221)); have n8_ := Aside0.mk ((by rw [hg]; exact Nat.ne_of_gt (blk_lt (g := gb181) (o := .cells #[.slice (some ad192) l0_0.length c0_0] 30 (0, 0)) (bkl BK181)) : gb221 ≠ gb181)); have n9_ := Aside0.mk ((by rw [hg]; exact Nat.ne_of_lt (blk_lt (g := gb216) (o := .cells #[.int .i64 (rd (rd_L1 l0_0 t190) (ji19)), .int .i64 x16_1] 47 (0, 0)) (bkl BK216)) : gb216 ≠ gb221)); have n10_ := Aside0.mk ((by rw [hg]; exact Nat.ne_of_gt (blk_lt (g := gb216) (o := .cells #[.int .i64 (rd (rd_L1 l0_0 t190) (ji19)), .int .i64 x16_1] 47 (0, 0)) (bkl BK216)) : gb221 ≠ gb216)); clear HO219; clear BK181; clear BK216; clear HB; have HO219 := n0_; have BK181 := n1_; have BK216 := n2_; have HB := n3_; have BK221 := n4_; have GW221 := n5_; have GE221 := n6_; have NB181_221 := n7_; have NB221_181 := n8_; have NB216_221 := n9_; have NB221_216 := n10_; clear n0_ n1_ n2_ n3_ n4_ n5_ n6_ n7_ n8_ n9_ n10_; clear hb hbox hg; obtain ⟨Ao80, co80, eo80⟩ := Kd.V_slice HO219.out; subst eo80; have hnb81 := NB221_181.out; have hnc81 := NB181_221.out; have hnb82 := NB221_216.out; have hnc82 := NB216_221.out; have hcz83_0 : w79.cell? ⟨gb221, 0, none⟩ = some (.slice none 0 0) := (blk_cell BK221.out 0).trans rfl; have hfz83_0 := blk_frozen BK221.out 0) | ((with_reducible refine gate_callee (f := 34) rfl ?_); refine goesL_ (some 111) rfl rfl Tryd.func34 (by kernel_rfl) rfl #[.agg #[.slice Ao80 t217.length co80], .slice (some ad189) l1.length c1, .int .i64 (wrap64 (a2 - 1))] rfl gmp ?_; (with_reducible refine (ih kj61 (by have := HK1.out; have := HJ61.out; omega) _ _ t217 _ _ l1 (wrap64 (a2 - 1)) t222 true _ ?side1 ?side2 ?side3 ?side4 A69.out).mono ?_); (case side1 => refine (Kd.V_reads' (e := 25) (base := w.heap.size) (ok := fun k_ => ((k_ ≠ gb181 ∧ k_ ≠ gb216) ∧ k_ ≠ gb221)) (n := t217.length) (c := co80) ?_).2.2; exact (by (with_reducible repeat (first | apply Kd.V_alloc | apply Kd.V_drewN | apply Kd.V_drew)); exact (Kd.V_mono (Kd.V_far (p := ⟨gb221, 0, none⟩) (Kd.V_mono HO219.out (fun k_ hk => (⟨hk, hk.2⟩ : _ ∧ k_ ≠ gb221))) (fun _ hk => hk.2) (.slice Ao80 t217.length co80)) (fun _ h_ => h_.1)))); (case side2 => exact (Kd.V_reads' HO219.out).2.1); (case side3 => exact Kd.C_below HR1.out (bel3 HB GE181 GE216 GE221)); (case side4 => exact HC1.out); rintro e w84 ⟨v223, rfl, ho0, hb⟩; refine ⟨_, rfl, ?_⟩; have n0_ := Aside0.mk (Kd.V_elder' (by (with_reducible repeat (first | apply Kd.V_alloc | apply Kd.V_drewN | apply Kd.V_drew)); exact (Kd.V_mono (Kd.V_far (p := ⟨gb221, 0, none⟩) (Kd.V_mono HO219.out (fun k_ hk => (⟨hk, hk.2⟩ : _ ∧ k_ ≠ gb221))) (fun _ hk => hk.2) (.slice Ao80 t217.length co80)) (fun _ h_ => h_.1))) (Kd.R_base ho0) hb); have n1_ := Aside0.mk (Kd.R_lower (Kd.R_newB ho0 (g := gb216) (o := .cells #[.int .i64 (rd (rd_L1 l0_0 t190) (ji19)), .int .i64 x16_1] 47 (0, 0)) (by (with_reducible repeat (first | refine blk_drewN ?_ _ | refine blk_drew ?_ | refine blk_alloc ?_ _)); refine blk_far ?_ NB216_221.out _; (with_reducible repeat (first | refine blk_drewN ?_ _ | refine blk_drew ?_ | refine blk_alloc ?_ _)); exact BK216.out)) (below_size (bel3 HB GE181 GE216 GE221))); have n2_ := Aside0.mk (blk_below (g := gb181) (o := .cells #[.slice (some ad192) l0_0.length c0_0] 30 (0, 0)) (by (with_reducible repeat (first | refine blk_drewN ?_ _ | refine blk_drew ?_ | refine blk_alloc ?_ _)); refine blk_far ?_ NB181_221.out _; (with_reducible repeat (first | refine blk_drewN ?_ _ | refine blk_drew ?_ | refine blk_alloc ?_ _)); exact BK181.out) hb); have n3_ := Aside0.mk (blk_below (g := gb216) (o := .cells #[.int .i64 (rd (rd_L1 l0_0 t190) (ji19)), .int .i64 x16_1] 47 (0, 0)) (by (with_reducible repeat (first | refine blk_drewN ?_ _ | refine blk_drew ?_ | refine blk_alloc ?_ _)); refine blk_far ?_ NB216_221.out _; (with_reducible repeat (first | refine blk_drewN ?_ _ | refine blk_drew ?_ | refine blk_alloc ?_ _)); exact BK216.out) hb); have n4_ := Aside0.mk (blk_below (g := gb221) (o := .cells #[.slice Ao80 t217.length co80] 30 (0, 0)) (by (with_reducible repeat (first | refine blk_drewN ?_ _ | refine blk_drew ?_ | refine blk_alloc ?_ _)); refine blk_put (cs := #[.slice none 0 0]) ?_ 0 _ rfl; (with_reducible repeat (first | refine blk_drewN ?_ _ | refine blk_drew ?_ | refine blk_alloc ?_ _)); exact BK221.out) hb); have n5_ := Aside0.mk (below_step (bel3 HB GE181 GE216 GE221) hb); clear HO219; clear BK181; clear BK216; clear BK221; clear HB; have HO219 := n0_; have HO224 := n1_; have BK181 := n2_; have BK216 := n3_; have BK221 := n4_; have HB := n5_; clear n0_ n1_ n2_ n3_ n4_ n5_; (try clear hb); (try clear hb2); (try clear hk); (try clear hi); (try clear ho0); have hcz85_0 : w84.cell? ⟨gb216, 0, none⟩ = some (.int .i64 (rd (rd_L1 l0_0 t190) (ji19))) := (blk_cell BK216.out 0).trans rfl; have hcz85_1 : w84.cell? ⟨gb216, 1, none⟩ = some (.int .i64 x16_1) := (blk_cell BK216.out 1).trans rfl; have hfz85_0 := blk_frozen BK216.out 0; have hfz85_1 := blk_frozen BK216.out 1) | ((with_reducible refine gate_dst (N := 116) rfl ?_); refine Kd.R_lit k47 _ 47 ?hg (N := 116) ?hd (xs := ([(⟨(rd (rd_L1 l0_0 t190) (ji19)), x16_1⟩ : S47)] : List (S47))) (inner := [.int .i64 (rd (rd_L1 l0_0 t190) (ji19)), .int .i64 x16_1]) (ok := fun _ => True) (okp := fun _ => True) ?hr ?hp (fun _ hk => hk) trivial (Below.refl _ _) (Nat.le_refl _) (by simp) ?_; (case hd => rfl); (case hg => rfl); (case hr => first | (go_simp; done) | (go_simp; rfl)); (case hp => exact (Reps.c2 (show Kd.M k47 _ _ _ (⟨(rd (rd_L1 l0_0 t190) (ji19)), x16_1⟩ : S47) [.int .i64 (rd (rd_L1 l0_0 t190) (ji19)), .int .i64 x16_1] from (k47_mkM _ _ _ (⟨(rd (rd_L1 l0_0 t190) (ji19)), x16_1⟩ : S47) )) (Reps.none _ _))); intro v227 w86 ho87 hb hg_ hnew_; clear hg_ hnew_; (first | rw [← Ny226.out] at ho87 | (simp only [Int.reduceToNat] at ho87; rw [← Ny226.out] at ho87)); have n0_ := Aside0.mk (Kd.V_elder' (by (with_reducible repeat (first | apply Kd.V_alloc | apply Kd.V_drewN | apply Kd.V_drew)); exact HO219.out) (Kd.R_base ho87) hb); have n1_ := Aside0.mk (Kd.R_elder' (rdl HO224) (Kd.R_base ho87) hb); have n2_ := Aside0.mk (Kd.R_lower (Kd.R_newB (Kd.R_new' ho87 (Kd.R_lt (rdl HO224))) (g := gb216) (o := .cells #[.int .i64 (rd (rd_L1 l0_0 t190) (ji19)), .int .i64 x16_1] 47 (0, 0)) (bkl BK216)) (below_size (bel3 HB GE181 GE216 GE221))); have n3_ := Aside0.mk (blk_below (g := gb181) (o := .cells #[.slice (some ad192) l0_0.length c0_0] 30 (0, 0)) (bkl BK181) hb); have n4_ := Aside0.mk (blk_below (g := gb216) (o := .cells #[.int .i64 (rd (rd_L1 l0_0 t190) (ji19)), .int .i64 x16_1] 47 (0, 0)) (bkl BK216) hb); have n5_ := Aside0.mk (blk_below (g := gb221) (o := .cells #[.slice Ao80 t217.length co80] 30 (0, 0)) (bkl BK221) hb); have n6_ := Aside0.mk (below_step (bel3 HB GE181 GE216 GE221) hb); clear HO219; clear HO224; clear BK181; clear BK216; clear BK221; clear HB; have HO219 := n0_; have HO224 := n1_; have HO228 := n2_; have BK181 := n3_; have BK216 := n4_; have BK221 := n5_; have HB := n6_; clear n0_ n1_ n2_ n3_ n4_ n5_ n6_; clear hb ho87; obtain ⟨Ao89, co89, eo89⟩ := Kd.R_slice HO224.out; subst eo89) | ((with_reducible refine gate_builtin (b := .append) (xs := #[.tmp 116, .tmp 117]) rfl ?_); at_builtin; refine Kd.R_append_rows k47 (w0 := w) w.heap.size rfl (.tmp 116) (.tmp 117) 27 47 (.agg #[(.int .i64 0), (.int .i64 0)]) 16 rfl Tryd.underlying27 info47 rfl (by decide) (by omega) v227 y226 t222 _ _ _ (fun k_ => some k_ ≠ (.slice Ao89 t222.length co89 : Value).ownBlock ∧ k_ ≠ gb216) (fun _ => False) rfl rfl ?aO ?aR (fun _ _ h => h) (fun _ h => h.elim) ?aF ?aB ?aS ?aL ?_; (case aR => repeat (first | exact (Kd.R_reads' HO224.out).2.2 | (with_reducible refine Kd.C_alloc ?_ _) | (with_reducible refine Kd.C_drewN ?_ _) | (with_reducible refine Kd.C_drew ?_))); (case aB => exact (bel3 HB GE181 GE216 GE221)); (case aF => exact (fun k_ hk => ⟨Kd.fresh' (Kd.R_lt (rdl HO224)) k_ hk, Kd.freshB (g := gb216) (o := .cells #[.int .i64 (rd (rd_L1 l0_0 t190) (ji19)), .int .i64 x16_1] 47 (0, 0)) (bkl BK216) k_ hk⟩)); (case aO => exact (by (with_reducible repeat (first | apply Kd.R_alloc | apply Kd.R_drewN | apply Kd.R_drew)); exact Kd.R_mono HO228.out (fun _ hk => ⟨hk.1.2, hk.2⟩))); (case aS => exact (below_size (bel3 HB GE181 GE216 GE221))); (case aL => have := LMc71.out; omega); intro v230 w88 ho hb hg hat; rw [← Ny229.out] at ho; have n0_ := Aside0.mk (blk_grown (g := gb181) (o := .cells #[.slice (some ad192) l0_0.length c0_0] 30 (0, 0)) (bkl BK181) hg (Kd.R_ne HO228.out BK181.out (by decide))); have n1_ := Aside0.mk (blk_grown (g := gb216) (o := .cells #[.int .i64 (rd (rd_L1 l0_0 t190) (ji19)), .int .i64 x16_1] 47 (0, 0)) (bkl BK216) hg (Kd.R_away HO228.out (fun _ hk => hk.2))); have n2_ := Aside0.mk (Kd.V_afterv (ok := (fun k_ => some k_ ≠ (.slice Ao89 t222.length co89 : Value).ownBlock ∧ k_ ≠ gb181 ∧ k_ ≠ gb216 ∧ k_ ≠ gb221)) (by (with_reducible repeat (first | apply Kd.V_alloc | apply Kd.V_drewN | apply Kd.V_drew)); exact Kd.V_mono HO219.out (fun _ hk => ⟨⟨hk.1.2, ⟨hk.1.1.1.1, ⟨hk.1.1.1.2, hk.1.1.2⟩⟩⟩, hk.2⟩)) hg hat); have n3_ := Aside0.mk (blk_grown (g := gb221) (o := .cells #[.slice Ao80 t217.length co80] 30 (0, 0)) (bkl BK221) hg (Kd.R_ne HO228.out BK221.out (by decide))); have n4_ := Aside0.mk (Kd.R_after (ok := (fun k_ => k_ ≠ gb216)) (by (with_reducible repeat (first | apply Kd.R_alloc | apply Kd.R_drewN | apply Kd.R_drew)); exact Kd.R_mono HO224.out (fun _ hk => ⟨hk.1.2, hk.2⟩)) hg hat); have n5_ := Aside0.mk (hb); have n6_ := Aside0.mk (ho); clear BK181; clear BK216; clear HO219; clear BK221; clear HO224; clear HB; clear HO228; have BK181 := n0_; have BK216 := n1_; have HO219 := n2_; have BK221 := n3_; have HO224 := n4_; have HB := n5_; have HO231 := n6_; clear n0_ n1_ n2_ n3_ n4_ n5_ n6_; clear ho hb hg hat))
                 go_ret2
                 exact ⟨_, by first | rfl | (simp [errW_none, errW_some] <;> rfl) | (simp only [← hji19]; first | rfl | (simp [errW_none, errW_some] <;> rfl)) | (simp [*, errW_none, errW_some] <;> rfl), by (with_reducible repeat (first | apply Kd.R_alloc | apply Kd.R_drewN | apply Kd.R_drew)); exact Kd.R_mono HO231.out (fun _ hk => trivial), bel3 HB GE181 GE216 GE221⟩
                ·rw [if_neg c71] at H
                 exact absurd H (by simp)
               ·replace c70 := Bool.eq_false_iff.mpr c70
                subst c70
                have H1 : (spec_l6Search.l0 kj61 l1 a2 (rd (rd_L1 l0_0 t190) (ji19)) (wrap64 (x16_1 + 1)) l0_0) = some (r1, r2) := by rw [if_neg (show ¬ (false = true) by decide)] at H; exact H
                clear H
                have H := H1
                clear H1
                have H' := Aside0.mk H
                clear H
                go_wp2_with (first | ((with_reducible refine gate_dst (N := 17) rfl ?_); refine box_event ?hg (N := 17) ?hd (cs := #[.int .i64 0, .int .i64 0]) (t := 47) ?hr ?_; (case hd => rfl); (case hg => rfl); (case hr => first | (go_simp; done) | (go_simp; rfl)); intro gb216 hg w90 hbox hb; have n0_ := Aside0.mk (blk_below (g := gb181) (o := .cells #[.slice (some ad192) l0_0.length c0_0] 30 (0, 0)) (bkl BK181) hb); have n1_ := Aside0.mk (below_step (bel1 HB GE181) hb); have n2_ := Aside0.mk (hbox); have n3_ := Aside0.mk ((by rw [hg]; exact (below_size (bel1 HB GE181)) : w.heap.size ≤ gb216)); have n4_ := Aside0.mk ((by rw [hg]; exact (below_size (bel1 HB GE181)) : w.heap.size ≤ gb216)); have n5_ := Aside0.mk ((by rw [hg]; exact Nat.ne_of_lt (blk_lt (g := gb181) (o := .cells #[.slice (some ad192) l0_0.length c0_0] 30 (0, 0)) (bkl BK181)) : gb181 ≠ gb216)); have n6_ := Aside0.mk ((by rw [hg]; exact Nat.ne_of_gt (blk_lt (g := gb181) (o := .cells #[.slice (some ad192) l0_0.length c0_0] 30 (0, 0)) (bkl BK181)) : gb216 ≠ gb181)); clear BK181; clear HB; have BK181 := n0_; have HB := n1_; have BK216 := n2_; have GW216 := n3_; have GE216 := n4_; have NB181_216 := n5_; have NB216_181 := n6_; clear n0_ n1_ n2_ n3_ n4_ n5_ n6_; clear hb hbox hg; have hnb91 := NB216_181.out; have hnc91 := NB181_216.out; have hcz92_0 : w90.cell? ⟨gb216, 0, none⟩ = some (.int .i64 0) := (blk_cell BK216.out 0).trans rfl; have hcz92_1 : w90.cell? ⟨gb216, 1, none⟩ = some (.int .i64 0) := (blk_cell BK216.out 1).trans rfl; have hfz92_0 := blk_frozen BK216.out 0; have hfz92_1 := blk_frozen BK216.out 1) | ((with_reducible refine gate_store (t := 47) (p := 17) rfl ?_); refine store_event (t := 47) (p := 17) (v := ?vo_w93) (w1 := ((w90.setCell ⟨gb216, 0, none⟩ (.int .i64 (rd (rd_L1 l0_0 t190) (ji19)))).setCell ⟨gb216, 1, none⟩ (.int .i64 x16_1))) ?hg ?ho ?hn ?hr ?_; (case ho => rfl); (case hg => rfl); (case hn => rfl); (case hr => first | (go_simp; done) | (go_simp; rfl)); intro w93 hw; have n0_ : Aside0 (w93.heap[gb181]? = some (.cells #[.slice (some ad192) l0_0.length c0_0] 30 (0, 0))) := ⟨(by rw [hw]; exact (by (with_reducible repeat (first | refine blk_drewN ?_ _ | refine blk_drew ?_ | refine blk_alloc ?_ _)); refine blk_far ?_ NB181_216.out _; (with_reducible repeat (first | refine blk_drewN ?_ _ | refine blk_drew ?_ | refine blk_alloc ?_ _)); refine blk_far ?_ NB181_216.out _; (with_reducible repeat (first | refine blk_drewN ?_ _ | refine blk_drew ?_ | refine blk_alloc ?_ _)); exact BK181.out))⟩; have n1_ : Aside0 (w93.heap[gb216]? = some (.cells #[.int .i64 (rd (rd_L1 l0_0 t190) (ji19)), .int .i64 x16_1] 47 (0, 0))) := ⟨(by rw [hw]; exact (by (with_reducible repeat (first | refine blk_drewN ?_ _ | refine blk_drew ?_ | refine blk_alloc ?_ _)); refine blk_put (cs := #[.int .i64 (rd (rd_L1 l0_0 t190) (ji19)), .int .i64 0]) ?_ 1 _ rfl; (with_reducible repeat (first | refine blk_drewN ?_ _ | refine blk_drew ?_ | refine blk_alloc ?_ _)); refine blk_put (cs := #[.int .i64 0, .int .i64 0]) ?_ 0 _ rfl; (with_reducible repeat (first | refine blk_drewN ?_ _ | refine blk_drew ?_ | refine blk_alloc ?_ _)); exact BK216.out))⟩; have n2_ : Aside0 (Below w.heap.size w w93) := ⟨(by rw [hw]; exact (bel2 HB GE181 GE216))⟩; clear hw; clear BK181; clear BK216; clear HB; have BK181 := n0_; have BK216 := n1_; have HB := n2_; clear n0_ n1_ n2_; have hcz94_0 : w93.cell? ⟨gb181, 0, none⟩ = some (.slice (some ad192) l0_0.length c0_0) := (blk_cell BK181.out 0).trans rfl; have hfz94_0 := blk_frozen BK181.out 0; have hcz95_0 : w93.cell? ⟨gb216, 0, none⟩ = some (.int .i64 (rd (rd_L1 l0_0 t190) (ji19))) := (blk_cell BK216.out 0).trans rfl; have hcz95_1 : w93.cell? ⟨gb216, 1, none⟩ = some (.int .i64 x16_1) := (blk_cell BK216.out 1).trans rfl; have hfz95_0 := blk_frozen BK216.out 0; have hfz95_1 := blk_frozen BK216.out 1) | ((with_reducible refine gate_callee (f := 45) rfl ?_); refine goesL_ (some 101) rfl rfl Tryd.func45 (by kernel_rfl) rfl #[.agg #[.slice (some ad192) l0_0.length c0_0], .agg #[.int .i64 (rd (rd_L1 l0_0 t190) (ji19)), .int .i64 x16_1]] rfl (by (try simp only [List.map_toArray, List.map_cons, List.map_nil]); first | done | (simp only [hji19]; rfl) | rfl | (simp only [List.length_drop, List.length_take]; rfl)) ?_; (with_reducible refine (spec_l6Step.calls kj61 (fun k_ => k_ < w.heap.size) _ _ l0_0 (rd (rd_L1 l0_0 t190) (ji19)) x16_1 t217 true _ ?side1 A67.out).mono ?_); (case side1 => exact Kd.V_mk HC0_0.out (Kd.F_below (Kd.C_F (Kd.heap_slice 3 (Kd.heap_int .i64)) HR0_0.out) (bel2 HB GE181 GE216))); rintro e w96 ⟨v218, rfl, ho0, hb⟩; refine ⟨_, rfl, ?_⟩; have n0_ := Aside0.mk (Kd.V_lower (Kd.V_mono (ok' := fun k_ => k_ ≠ gb181 ∧ k_ ≠ gb216) ho0 (fun k_ hk_ => ⟨Or.elim hk_ (fun hs_ => fun e_ => Nat.not_le.2 hs_ (by rw [e_]; exact GW181.out)) (fun hn_ => (Kd.freshB (g := gb181) (o := .cells #[.slice (some ad192) l0_0.length c0_0] 30 (0, 0)) (bkl BK181) k_ hn_)), Or.elim hk_ (fun hs_ => fun e_ => Nat.not_le.2 hs_ (by rw [e_]; exact GW216.out)) (fun hn_ => (Kd.freshB (g := gb216) (o := .cells #[.int .i64 (rd (rd_L1 l0_0 t190) (ji19)), .int .i64 x16_1] 47 (0, 0)) (bkl BK216) k_ hn_))⟩)) (below_size (bel2 HB GE181 GE216))); have n1_ := Aside0.mk (blk_below (g := gb181) (o := .cells #[.slice (some ad192) l0_0.length c0_0] 30 (0, 0)) (bkl BK181) hb); have n2_ := Aside0.mk (blk_below (g := gb216) (o := .cells #[.int .i64 (rd (rd_L1 l0_0 t190) (ji19)), .int .i64 x16_1] 47 (0, 0)) (bkl BK216) hb); have n3_ := Aside0.mk (below_step (bel2 HB GE181 GE216) hb); clear BK181; clear BK216; clear HB; have HO219 := n0_; have BK181 := n1_; have BK216 := n2_; have HB := n3_; clear n0_ n1_ n2_ n3_; (try clear hb); (try clear hb2); (try clear hk); (try clear hi); (try clear ho0)) | ((with_reducible refine gate_dst (N := 18) rfl ?_); refine box_event ?hg (N := 18) ?hd (cs := #[.slice none 0 0]) (t := 30) ?hr ?_; (case hd => rfl); (case hg => rfl); (case hr => first | (go_simp; done) | (go_simp; rfl)); intro gb221 hg w97 hbox hb; have n0_ := Aside0.mk (Kd.V_below (Kd.V_elderB (by (with_reducible repeat (first | apply Kd.V_alloc | apply Kd.V_drewN | apply Kd.V_drew)); exact HO219.out) gb221 (Nat.le_of_eq hg.symm)) hb); have n1_ := Aside0.mk (blk_below (g := gb181) (o := .cells #[.slice (some ad192) l0_0.length c0_0] 30 (0, 0)) (bkl BK181) hb); have n2_ := Aside0.mk (blk_below (g := gb216) (o := .cells #[.int .i64 (rd (rd_L1 l0_0 t190) (ji19)), .int .i64 x16_1] 47 (0, 0)) (bkl BK216) hb); have n3_ := Aside0.mk (below_step (bel2 HB GE181 GE216) hb); have n4_ := Aside0.mk (hbox); have n5_ := Aside0.mk ((by rw [hg]; exact (below_size (bel2 HB GE181 GE216)) : w.heap.size ≤ gb221)); have n6_ := Aside0.mk ((by rw [hg]; exact (below_size (bel2 HB GE181 GE216)) : w.heap.size ≤ gb221)); have n7_ := Aside0.mk ((by rw [hg]; exact Nat.ne_of_lt (blk_lt (g := gb181) (o := .cells #[.slice (some ad192) l0_0.length c0_0] 30 (0, 0)) (bkl BK181)) : gb181 ≠ gb221)); have n8_ := Aside0.mk ((by rw [hg]; exact Nat.ne_of_gt (blk_lt (g := gb181) (o := .cells #[.slice (some ad192) l0_0.length c0_0] 30 (0, 0)) (bkl BK181)) : gb221 ≠ gb181)); have n9_ := Aside0.mk ((by rw [hg]; exact Nat.ne_of_lt (blk_lt (g := gb216) (o := .cells #[.int .i64 (rd (rd_L1 l0_0 t190) (ji19)), .int .i64 x16_1] 47 (0, 0)) (bkl BK216)) : gb216 ≠ gb221)); have n10_ := Aside0.mk ((by rw [hg]; exact Nat.ne_of_gt (blk_lt (g := gb216) (o := .cells #[.int .i64 (rd (rd_L1 l0_0 t190) (ji19)), .int .i64 x16_1] 47 (0, 0)) (bkl BK216)) : gb221 ≠ gb216)); clear HO219; clear BK181; clear BK216; clear HB; have HO219 := n0_; have BK181 := n1_; have BK216 := n2_; have HB := n3_; have BK221 := n4_; have GW221 := n5_; have GE221 := n6_; have NB181_221 := n7_; have NB221_181 := n8_; have NB216_221 := n9_; have NB221_216 := n10_; clear n0_ n1_ n2_ n3_ n4_ n5_ n6_ n7_ n8_ n9_ n10_; clear hb hbox hg; obtain ⟨Ao98, co98, eo98⟩ := Kd.V_slice HO219.out; subst eo98; have hnb99 := NB221_181.out; have hnc99 := NB181_221.out; have hnb100 := NB221_216.out; have hnc100 := NB216_221.out; have hcz101_0 : w97.cell? ⟨gb221, 0, none⟩ = some (.slice none 0 0) := (blk_cell BK221.out 0).trans rfl; have hfz101_0 := blk_frozen BK221.out 0) | ((with_reducible refine gate_callee (f := 34) rfl ?_); refine goesL_ (some 111) rfl rfl Tryd.func34 (by kernel_rfl) rfl #[.agg #[.slice Ao98 t217.length co98], .slice (some ad189) l1.length c1, .int .i64 (wrap64 (a2 - 1))] rfl gmp ?_; (with_reducible refine (ih kj61 (by have := HK1.out; have := HJ61.out; omega) _ _ t217 _ _ l1 (wrap64 (a2 - 1)) t222 false _ ?side1 ?side2 ?side3 ?side4 A69.out).mono ?_); (case side1 => refine (Kd.V_reads' (e := 25) (base := w.heap.size) (ok := fun k_ => ((k_ ≠ gb181 ∧ k_ ≠ gb216) ∧ k_ ≠ gb221)) (n := t217.length) (c := co98) ?_).2.2; exact (by (with_reducible repeat (first | apply Kd.V_alloc | apply Kd.V_drewN | apply Kd.V_drew)); exact (Kd.V_mono (Kd.V_far (p := ⟨gb221, 0, none⟩) (Kd.V_mono HO219.out (fun k_ hk => (⟨hk, hk.2⟩ : _ ∧ k_ ≠ gb221))) (fun _ hk => hk.2) (.slice Ao98 t217.length co98)) (fun _ h_ => h_.1)))); (case side2 => exact (Kd.V_reads' HO219.out).2.1); (case side3 => exact Kd.C_below HR1.out (bel3 HB GE181 GE216 GE221)); (case side4 => exact HC1.out); rintro e w102 ⟨v223, rfl, ho0, hb⟩; refine ⟨_, rfl, ?_⟩; have n0_ := Aside0.mk (Kd.V_elder' (by (with_reducible repeat (first | apply Kd.V_alloc | apply Kd.V_drewN | apply Kd.V_drew)); exact (Kd.V_mono (Kd.V_far (p := ⟨gb221, 0, none⟩) (Kd.V_mono HO219.out (fun k_ hk => (⟨hk, hk.2⟩ : _ ∧ k_ ≠ gb221))) (fun _ hk => hk.2) (.slice Ao98 t217.length co98)) (fun _ h_ => h_.1))) (Kd.R_base ho0) hb); have n1_ := Aside0.mk (Kd.R_lower (Kd.R_newB ho0 (g := gb216) (o := .cells #[.int .i64 (rd (rd_L1 l0_0 t190) (ji19)), .int .i64 x16_1] 47 (0, 0)) (by (with_reducible repeat (first | refine blk_drewN ?_ _ | refine blk_drew ?_ | refine blk_alloc ?_ _)); refine blk_far ?_ NB216_221.out _; (with_reducible repeat (first | refine blk_drewN ?_ _ | refine blk_drew ?_ | refine blk_alloc ?_ _)); exact BK216.out)) (below_size (bel3 HB GE181 GE216 GE221))); have n2_ := Aside0.mk (blk_below (g := gb181) (o := .cells #[.slice (some ad192) l0_0.length c0_0] 30 (0, 0)) (by (with_reducible repeat (first | refine blk_drewN ?_ _ | refine blk_drew ?_ | refine blk_alloc ?_ _)); refine blk_far ?_ NB181_221.out _; (with_reducible repeat (first | refine blk_drewN ?_ _ | refine blk_drew ?_ | refine blk_alloc ?_ _)); exact BK181.out) hb); have n3_ := Aside0.mk (blk_below (g := gb216) (o := .cells #[.int .i64 (rd (rd_L1 l0_0 t190) (ji19)), .int .i64 x16_1] 47 (0, 0)) (by (with_reducible repeat (first | refine blk_drewN ?_ _ | refine blk_drew ?_ | refine blk_alloc ?_ _)); refine blk_far ?_ NB216_221.out _; (with_reducible repeat (first | refine blk_drewN ?_ _ | refine blk_drew ?_ | refine blk_alloc ?_ _)); exact BK216.out) hb); have n4_ := Aside0.mk (blk_below (g := gb221) (o := .cells #[.slice Ao98 t217.length co98] 30 (0, 0)) (by (with_reducible repeat (first | refine blk_drewN ?_ _ | refine blk_drew ?_ | refine blk_alloc ?_ _)); refine blk_put (cs := #[.slice none 0 0]) ?_ 0 _ rfl; (with_reducible repeat (first | refine blk_drewN ?_ _ | refine blk_drew ?_ | refine blk_alloc ?_ _)); exact BK221.out) hb); have n5_ := Aside0.mk (below_step (bel3 HB GE181 GE216 GE221) hb); clear HO219; clear BK181; clear BK216; clear BK221; clear HB; have HO219 := n0_; have HO224 := n1_; have BK181 := n2_; have BK216 := n3_; have BK221 := n4_; have HB := n5_; clear n0_ n1_ n2_ n3_ n4_ n5_; (try clear hb); (try clear hb2); (try clear hk); (try clear hi); (try clear ho0)))
                go_roundg kj61
                case measure => have := HK1.out; have := HJ61.out; omega
                case rel => exact ⟨(wrap64 (x16_1 + 1)), (by first | rfl | (simp; done) | (simp [*]; done)), H', ⟨by have := HK1.out; have := HJ61.out; omega⟩, ⟨bkl BK181⟩, ⟨bel3 HB GE181 GE216 GE221⟩⟩
              ·replace c68 := Bool.eq_false_iff.mpr c68
               subst c68
               have H1 : (spec_l6Search.l0 kj61 l1 a2 (rd (rd_L1 l0_0 t190) (ji19)) (wrap64 (x16_1 + 1)) l0_0) = some (r1, r2) := by rw [if_neg (show ¬ (false = true) by decide)] at H; exact H
               clear H
               have H := H1
               clear H1
               have H' := Aside0.mk H
               clear H
               go_wp2_with (first | ((with_reducible refine gate_dst (N := 17) rfl ?_); refine box_event ?hg (N := 17) ?hd (cs := #[.int .i64 0, .int .i64 0]) (t := 47) ?hr ?_; (case hd => rfl); (case hg => rfl); (case hr => first | (go_simp; done) | (go_simp; rfl)); intro gb216 hg w103 hbox hb; have n0_ := Aside0.mk (blk_below (g := gb181) (o := .cells #[.slice (some ad192) l0_0.length c0_0] 30 (0, 0)) (bkl BK181) hb); have n1_ := Aside0.mk (below_step (bel1 HB GE181) hb); have n2_ := Aside0.mk (hbox); have n3_ := Aside0.mk ((by rw [hg]; exact (below_size (bel1 HB GE181)) : w.heap.size ≤ gb216)); have n4_ := Aside0.mk ((by rw [hg]; exact (below_size (bel1 HB GE181)) : w.heap.size ≤ gb216)); have n5_ := Aside0.mk ((by rw [hg]; exact Nat.ne_of_lt (blk_lt (g := gb181) (o := .cells #[.slice (some ad192) l0_0.length c0_0] 30 (0, 0)) (bkl BK181)) : gb181 ≠ gb216)); have n6_ := Aside0.mk ((by rw [hg]; exact Nat.ne_of_gt (blk_lt (g := gb181) (o := .cells #[.slice (some ad192) l0_0.length c0_0] 30 (0, 0)) (bkl BK181)) : gb216 ≠ gb181)); clear BK181; clear HB; have BK181 := n0_; have HB := n1_; have BK216 := n2_; have GW216 := n3_; have GE216 := n4_; have NB181_216 := n5_; have NB216_181 := n6_; clear n0_ n1_ n2_ n3_ n4_ n5_ n6_; clear hb hbox hg; have hnb104 := NB216_181.out; have hnc104 := NB181_216.out; have hcz105_0 : w103.cell? ⟨gb216, 0, none⟩ = some (.int .i64 0) := (blk_cell BK216.out 0).trans rfl; have hcz105_1 : w103.cell? ⟨gb216, 1, none⟩ = some (.int .i64 0) := (blk_cell BK216.out 1).trans rfl; have hfz105_0 := blk_frozen BK216.out 0; have hfz105_1 := blk_frozen BK216.out 1) | ((with_reducible refine gate_store (t := 47) (p := 17) rfl ?_); refine store_event (t := 47) (p := 17) (v := ?vo_w106) (w1 := ((w103.setCell ⟨gb216, 0, none⟩ (.int .i64 (rd (rd_L1 l0_0 t190) (ji19)))).setCell ⟨gb216, 1, none⟩ (.int .i64 x16_1))) ?hg ?ho ?hn ?hr ?_; (case ho => rfl); (case hg => rfl); (case hn => rfl); (case hr => first | (go_simp; done) | (go_simp; rfl)); intro w106 hw; have n0_ : Aside0 (w106.heap[gb181]? = some (.cells #[.slice (some ad192) l0_0.length c0_0] 30 (0, 0))) := ⟨(by rw [hw]; exact (by (with_reducible repeat (first | refine blk_drewN ?_ _ | refine blk_drew ?_ | refine blk_alloc ?_ _)); refine blk_far ?_ NB181_216.out _; (with_reducible repeat (first | refine blk_drewN ?_ _ | refine blk_drew ?_ | refine blk_alloc ?_ _)); refine blk_far ?_ NB181_216.out _; (with_reducible repeat (first | refine blk_drewN ?_ _ | refine blk_drew ?_ | refine blk_alloc ?_ _)); exact BK181.out))⟩; have n1_ : Aside0 (w106.heap[gb216]? = some (.cells #[.int .i64 (rd (rd_L1 l0_0 t190) (ji19)), .int .i64 x16_1] 47 (0, 0))) := ⟨(by rw [hw]; exact (by (with_reducible repeat (first | refine blk_drewN ?_ _ | refine blk_drew ?_ | refine blk_alloc ?_ _)); refine blk_put (cs := #[.int .i64 (rd (rd_L1 l0_0 t190) (ji19)), .int .i64 0]) ?_ 1 _ rfl; (with_reducible repeat (first | refine blk_drewN ?_ _ | refine blk_drew ?_ | refine blk_alloc ?_ _)); refine blk_put (cs := #[.int .i64 0, .int .i64 0]) ?_ 0 _ rfl; (with_reducible repeat (first | refine blk_drewN ?_ _ | refine blk_drew ?_ | refine blk_alloc ?_ _)); exact BK216.out))⟩; have n2_ : Aside0 (Below w.heap.size w w106) := ⟨(by rw [hw]; exact (bel2 HB GE181 GE216))⟩; clear hw; clear BK181; clear BK216; clear HB; have BK181 := n0_; have BK216 := n1_; have HB := n2_; clear n0_ n1_ n2_; have hcz107_0 : w106.cell? ⟨gb181, 0, none⟩ = some (.slice (some ad192) l0_0.length c0_0) := (blk_cell BK181.out 0).trans rfl; have hfz107_0 := blk_frozen BK181.out 0; have hcz108_0 : w106.cell? ⟨gb216, 0, none⟩ = some (.int .i64 (rd (rd_L1 l0_0 t190) (ji19))) := (blk_cell BK216.out 0).trans rfl; have hcz108_1 : w106.cell? ⟨gb216, 1, none⟩ = some (.int .i64 x16_1) := (blk_cell BK216.out 1).trans rfl; have hfz108_0 := blk_frozen BK216.out 0; have hfz108_1 := blk_frozen BK216.out 1) | ((with_reducible refine gate_callee (f := 45) rfl ?_); refine goesL_ (some 101) rfl rfl Tryd.func45 (by kernel_rfl) rfl #[.agg #[.slice (some ad192) l0_0.length c0_0], .agg #[.int .i64 (rd (rd_L1 l0_0 t190) (ji19)), .int .i64 x16_1]] rfl (by (try simp only [List.map_toArray, List.map_cons, List.map_nil]); first | done | (simp only [hji19]; rfl) | rfl | (simp only [List.length_drop, List.length_take]; rfl)) ?_; (with_reducible refine (spec_l6Step.calls kj61 (fun k_ => k_ < w.heap.size) _ _ l0_0 (rd (rd_L1 l0_0 t190) (ji19)) x16_1 t217 false _ ?side1 A67.out).mono ?_); (case side1 => exact Kd.V_mk HC0_0.out (Kd.F_below (Kd.C_F (Kd.heap_slice 3 (Kd.heap_int .i64)) HR0_0.out) (bel2 HB GE181 GE216))); rintro e w109 ⟨v218, rfl, ho0, hb⟩; refine ⟨_, rfl, ?_⟩; have n0_ := Aside0.mk (Kd.V_lower (Kd.V_mono (ok' := fun k_ => k_ ≠ gb181 ∧ k_ ≠ gb216) ho0 (fun k_ hk_ => ⟨Or.elim hk_ (fun hs_ => fun e_ => Nat.not_le.2 hs_ (by rw [e_]; exact GW181.out)) (fun hn_ => (Kd.freshB (g := gb181) (o := .cells #[.slice (some ad192) l0_0.length c0_0] 30 (0, 0)) (bkl BK181) k_ hn_)), Or.elim hk_ (fun hs_ => fun e_ => Nat.not_le.2 hs_ (by rw [e_]; exact GW216.out)) (fun hn_ => (Kd.freshB (g := gb216) (o := .cells #[.int .i64 (rd (rd_L1 l0_0 t190) (ji19)), .int .i64 x16_1] 47 (0, 0)) (bkl BK216) k_ hn_))⟩)) (below_size (bel2 HB GE181 GE216))); have n1_ := Aside0.mk (blk_below (g := gb181) (o := .cells #[.slice (some ad192) l0_0.length c0_0] 30 (0, 0)) (bkl BK181) hb); have n2_ := Aside0.mk (blk_below (g := gb216) (o := .cells #[.int .i64 (rd (rd_L1 l0_0 t190) (ji19)), .int .i64 x16_1] 47 (0, 0)) (bkl BK216) hb); have n3_ := Aside0.mk (below_step (bel2 HB GE181 GE216) hb); clear BK181; clear BK216; clear HB; have HO219 := n0_; have BK181 := n1_; have BK216 := n2_; have HB := n3_; clear n0_ n1_ n2_ n3_; (try clear hb); (try clear hb2); (try clear hk); (try clear hi); (try clear ho0)) | ((with_reducible refine gate_dst (N := 18) rfl ?_); refine box_event ?hg (N := 18) ?hd (cs := #[.slice none 0 0]) (t := 30) ?hr ?_; (case hd => rfl); (case hg => rfl); (case hr => first | (go_simp; done) | (go_simp; rfl)); intro gb221 hg w110 hbox hb; have n0_ := Aside0.mk (Kd.V_below (Kd.V_elderB (by (with_reducible repeat (first | apply Kd.V_alloc | apply Kd.V_drewN | apply Kd.V_drew)); exact HO219.out) gb221 (Nat.le_of_eq hg.symm)) hb); have n1_ := Aside0.mk (blk_below (g := gb181) (o := .cells #[.slice (some ad192) l0_0.length c0_0] 30 (0, 0)) (bkl BK181) hb); have n2_ := Aside0.mk (blk_below (g := gb216) (o := .cells #[.int .i64 (rd (rd_L1 l0_0 t190) (ji19)), .int .i64 x16_1] 47 (0, 0)) (bkl BK216) hb); have n3_ := Aside0.mk (below_step (bel2 HB GE181 GE216) hb); have n4_ := Aside0.mk (hbox); have n5_ := Aside0.mk ((by rw [hg]; exact (below_size (bel2 HB GE181 GE216)) : w.heap.size ≤ gb221)); have n6_ := Aside0.mk ((by rw [hg]; exact (below_size (bel2 HB GE181 GE216)) : w.heap.size ≤ gb221)); have n7_ := Aside0.mk ((by rw [hg]; exact Nat.ne_of_lt (blk_lt (g := gb181) (o := .cells #[.slice (some ad192) l0_0.length c0_0] 30 (0, 0)) (bkl BK181)) : gb181 ≠ gb221)); have n8_ := Aside0.mk ((by rw [hg]; exact Nat.ne_of_gt (blk_lt (g := gb181) (o := .cells #[.slice (some ad192) l0_0.length c0_0] 30 (0, 0)) (bkl BK181)) : gb221 ≠ gb181)); have n9_ := Aside0.mk ((by rw [hg]; exact Nat.ne_of_lt (blk_lt (g := gb216) (o := .cells #[.int .i64 (rd (rd_L1 l0_0 t190) (ji19)), .int .i64 x16_1] 47 (0, 0)) (bkl BK216)) : gb216 ≠ gb221)); have n10_ := Aside0.mk ((by rw [hg]; exact Nat.ne_of_gt (blk_lt (g := gb216) (o := .cells #[.int .i64 (rd (rd_L1 l0_0 t190) (ji19)), .int .i64 x16_1] 47 (0, 0)) (bkl BK216)) : gb221 ≠ gb216)); clear HO219; clear BK181; clear BK216; clear HB; have HO219 := n0_; have BK181 := n1_; have BK216 := n2_; have HB := n3_; have BK221 := n4_; have GW221 := n5_; have GE221 := n6_; have NB181_221 := n7_; have NB221_181 := n8_; have NB216_221 := n9_; have NB221_216 := n10_; clear n0_ n1_ n2_ n3_ n4_ n5_ n6_ n7_ n8_ n9_ n10_; clear hb hbox hg; obtain ⟨Ao111, co111, eo111⟩ := Kd.V_slice HO219.out; subst eo111; have hnb112 := NB221_181.out; have hnc112 := NB181_221.out; have hnb113 := NB221_216.out; have hnc113 := NB216_221.out; have hcz114_0 : w110.cell? ⟨gb221, 0, none⟩ = some (.slice none 0 0) := (blk_cell BK221.out 0).trans rfl; have hfz114_0 := blk_frozen BK221.out 0))
               go_roundg kj61
               case measure => have := HK1.out; have := HJ61.out; omega
               case rel => exact ⟨(wrap64 (x16_1 + 1)), (by first | rfl | (simp; done) | (simp [*]; done)), H', ⟨by have := HK1.out; have := HJ61.out; omega⟩, ⟨by (with_reducible repeat (first | refine blk_drewN ?_ _ | refine blk_drew ?_ | refine blk_alloc ?_ _)); refine blk_far ?_ NB181_221.out _; (with_reducible repeat (first | refine blk_drewN ?_ _ | refine blk_drew ?_ | refine blk_alloc ?_ _)); exact BK181.out⟩, ⟨bel3 HB GE181 GE216 GE221⟩⟩
             ·replace c66 := Bool.eq_false_iff.mpr c66
              subst c66
              have H1 : (some ((([] : List (S47))), false)) = some (r1, r2) := by rw [if_neg (show ¬ (false = true) by decide)] at H; exact H
              clear H
              have H := H1
              clear H1
              obtain ⟨y213, hy213⟩ : ∃ y_ : List (S47), y_ = (([] : List (S47))) := ⟨_, rfl⟩
              replace H : (some (y213, false)) = some (r1, r2) := by first | (rw [hy213]; with_reducible exact H) | (have H2_ := (Option.bind_some _ _).symm.trans H; rw [hy213]; with_reducible exact H2_) | (have H2_ := (Option.bind_some _ _).symm.trans H; with_reducible exact H2_) | with_reducible exact H | (rw [hy213]; exact H) | exact H
              have Ny213 := Aside0.mk hy213
              clear hy213
              simp only [Option.some.injEq, Prod.mk.injEq] at H
              obtain ⟨rfl, rfl⟩ := H
              go_wp2_with (first | ((with_reducible refine gate_dst (N := 119) rfl ?_); refine Kd.R_lit k47 _ 47 ?hg (N := 119) ?hd (xs := ([] : List (S47))) (inner := []) (ok := fun _ => True) (okp := fun _ => True) ?hr ?hp (fun _ hk => hk) trivial (Below.refl _ _) (Nat.le_refl _) (by simp) ?_; (case hd => rfl); (case hg => rfl); (case hr => first | (go_simp; done) | (go_simp; rfl)); (case hp => exact (Reps.none _ _)); intro v214 w115 ho116 hb hg_ hnew_; clear hg_ hnew_; (first | rw [← Ny213.out] at ho116 | (simp only [Int.reduceToNat] at ho116; rw [← Ny213.out] at ho116)); have n0_ := Aside0.mk (Kd.R_lower ho116 (below_size (bel1 HB GE181))); have n1_ := Aside0.mk (blk_below (g := gb181) (o := .cells #[.slice (some ad192) l0_0.length c0_0] 30 (0, 0)) (bkl BK181) hb); have n2_ := Aside0.mk (below_step (bel1 HB GE181) hb); clear BK181; clear HB; have HO215 := n0_; have BK181 := n1_; have HB := n2_; clear n0_ n1_ n2_; clear hb ho116))
              go_ret2
              exact ⟨_, by first | rfl | (simp [errW_none, errW_some] <;> rfl) | (simp only [← hji19]; first | rfl | (simp [errW_none, errW_some] <;> rfl)) | (simp [*, errW_none, errW_some] <;> rfl), rdl HO215, bel1 HB GE181⟩
       ·rw [if_neg c21] at H
        exact absurd H (by simp)
      ·rw [if_neg c20] at H
       exact absurd H (by simp)
     ·rw [if_neg c18] at H
      exact absurd H (by simp)
    ·rw [if_neg c17] at H
     exact absurd H (by simp)
   ·rw [if_neg c15] at H
    exact absurd H (by simp)

end Go.Proofs.YtfcbdfedolnkfaaDoor.P
