-- Written by a program of this session over the translation (a variant of the printer, see wip/gen); Lean checks it.
import Derived.Test.YtgeakpogmjbjkaaPx0
import Derived.Test.YtgeakpogmjbjkaaPx5
import Derived.Test.YtgeakpogmjbjkaaPx7
import Derived.Test.YtgeakpogmjbjkaaPx8
namespace Go.Proofs.Ytgeakpogmjbjkaa.P
open Go.RowKit Go.Proofs.YtgeakpogmjbjkaaW.PrintWords Go.Proofs.YtgeakpogmjbjkaaW.PrintLast Go.Proofs.YtgeakpogmjbjkaaW.PrintMore
attribute [local go_sem] Go.Proofs.Ytgeakpogmjbjkaa.V.isSome_setCell max2_int min2_int max_two min_two max_three min_three max_four min_four   -- for this text's walks alone
set_option linter.unusedVariables false
set_option linter.unusedSimpArgs false

/-! ### spec_AllowedStacks: function 25 -/
mutual
def spec_AllowedStacks.j0 : Nat → List (S61) → Int → Int → List Int → Bool → List (List Int) → Option (List Int × Bool)
 | 0, _, _, _, _, _, _ => none
 | k + 1, x1, x2, x3, x10, x27, x257000 => if x27 = true then (some (x10, false)) else ((spec_l5Find.f k x257000 x3).bind fun bt262 => (if bt262.1 ≥ 0 then (some (x10, false)) else (spec_AllowedStacks.l0 k x1 x2 x3 x10 0 x257000)))
def spec_AllowedStacks.l0 : Nat → List (S61) → Int → Int → List Int → Int → List (List Int) → Option (List Int × Bool)
 | 0, _, _, _, _, _, _ => none
 | k + 1, x1, x2, x3, x10, x13, x257000 => if x13 < (x257000.length : Int) then (if 0 ≤ x13 then (if ((rd_L1 x257000 x13).length : Int) = 4 then (spec_AllowedStacks.l0 k x1 x2 x3 x10 (wrap64 (x13 + 1)) x257000) else ((spec_l7Put.f k x257000 x13 x3).bind fun t265 => ((spec_l7At.f k t265 x1 x2 x13 ((rd_L1 x257000 x13).length : Int)).bind fun t270 => (if (t270.length : Int) = 0 then (if x10.length < 17592186044416 then (spec_AllowedStacks.l0 k x1 x2 x3 (x10 ++ [x13]) (wrap64 (x13 + 1)) x257000) else (none)) else (spec_AllowedStacks.l0 k x1 x2 x3 x10 (wrap64 (x13 + 1)) x257000))))) else (none)) else (some (x10, true))
end
def spec_AllowedStacks.f (k : Nat) (l0_0 : List (List Int)) (l1 : List (S61)) (a2 : Int) (a3 : Int) : Option (List Int × Bool) := (some (([] : List Int) : List Int)).bind fun y257 => ((spec_l7Asked.f k l0_0 l1 a2).bind fun t260 => (if t260 = true then ((spec_l1In.f a3 1 (l1.length : Int)).bind fun t261 => (spec_AllowedStacks.j0 k l1 a2 a3 y257 (!t261) l0_0)) else (spec_AllowedStacks.j0 k l1 a2 a3 y257 true l0_0)))
theorem spec_AllowedStacks.mono_l : ∀ k, (∀ y0 y1 y2 y3 y4 y5, LeO (spec_AllowedStacks.j0 k y0 y1 y2 y3 y4 y5) (spec_AllowedStacks.j0 (k + 1) y0 y1 y2 y3 y4 y5)) ∧ (∀ y0 y1 y2 y3 y4 y5, LeO (spec_AllowedStacks.l0 k y0 y1 y2 y3 y4 y5) (spec_AllowedStacks.l0 (k + 1) y0 y1 y2 y3 y4 y5))
 | 0 => ⟨fun _ _ _ _ _ _ r h => by simp [spec_AllowedStacks.j0] at h, fun _ _ _ _ _ _ r h => by simp [spec_AllowedStacks.l0] at h⟩
 | k + 1 => by
  obtain ⟨ih0, ih1⟩ := spec_AllowedStacks.mono_l k
  refine ⟨?_, ?_⟩
  ·intro y0 y1 y2 y3 y4 y5
   unfold spec_AllowedStacks.j0
   repeat' first
   | (with_reducible exact ih0 _ _ _ _ _ _)
   | (with_reducible exact ih1 _ _ _ _ _ _)
   | (with_reducible exact spec_l5Find.mono _ _ _)
   | (with_reducible exact spec_l7Asked.mono _ _ _ _)
   | (with_reducible exact spec_l7At.mono _ _ _ _ _ _)
   | (with_reducible exact spec_l7Put.mono _ _ _ _)
   | (with_reducible exact LeO.refl _)
   | (with_reducible exact LeO.none _)
   | (with_reducible refine LeO.ite ?_ ?_)
   | (with_reducible refine LeO.bind ?_ (fun _ => ?_))
   | exact ih0 _ _ _ _ _ _
   | exact ih1 _ _ _ _ _ _
   | exact spec_l5Find.mono _ _ _
   | exact spec_l7Asked.mono _ _ _ _
   | exact spec_l7At.mono _ _ _ _ _ _
   | exact spec_l7Put.mono _ _ _ _
   | exact LeO.none _
   | refine LeO.ite ?_ ?_
   | refine LeO.bind ?_ (fun _ => ?_)
  ·intro y0 y1 y2 y3 y4 y5
   unfold spec_AllowedStacks.l0
   repeat' first
   | (with_reducible exact ih0 _ _ _ _ _ _)
   | (with_reducible exact ih1 _ _ _ _ _ _)
   | (with_reducible exact spec_l5Find.mono _ _ _)
   | (with_reducible exact spec_l7Asked.mono _ _ _ _)
   | (with_reducible exact spec_l7At.mono _ _ _ _ _ _)
   | (with_reducible exact spec_l7Put.mono _ _ _ _)
   | (with_reducible exact LeO.refl _)
   | (with_reducible exact LeO.none _)
   | (with_reducible refine LeO.ite ?_ ?_)
   | (with_reducible refine LeO.bind ?_ (fun _ => ?_))
   | exact ih0 _ _ _ _ _ _
   | exact ih1 _ _ _ _ _ _
   | exact spec_l5Find.mono _ _ _
   | exact spec_l7Asked.mono _ _ _ _
   | exact spec_l7At.mono _ _ _ _ _ _
   | exact spec_l7Put.mono _ _ _ _
   | exact LeO.none _
   | refine LeO.ite ?_ ?_
   | refine LeO.bind ?_ (fun _ => ?_)
theorem spec_AllowedStacks.mono : ∀ a0 a1 a2 a3 k, LeO (spec_AllowedStacks.f k a0 a1 a2 a3) (spec_AllowedStacks.f (k + 1) a0 a1 a2 a3) := by
 intro a0 a1 a2 a3 k
 obtain ⟨ih0, ih1⟩ := spec_AllowedStacks.mono_l k
 unfold spec_AllowedStacks.f
 repeat' first
   | (with_reducible exact ih0 _ _ _ _ _ _)
   | (with_reducible exact ih1 _ _ _ _ _ _)
   | (with_reducible exact spec_l5Find.mono _ _ _)
   | (with_reducible exact spec_l7Asked.mono _ _ _ _)
   | (with_reducible exact spec_l7At.mono _ _ _ _ _ _)
   | (with_reducible exact spec_l7Put.mono _ _ _ _)
   | (with_reducible exact LeO.refl _)
   | (with_reducible exact LeO.none _)
   | (with_reducible refine LeO.ite ?_ ?_)
   | (with_reducible refine LeO.bind ?_ (fun _ => ?_))
   | exact ih0 _ _ _ _ _ _
   | exact ih1 _ _ _ _ _ _
   | exact spec_l5Find.mono _ _ _
   | exact spec_l7Asked.mono _ _ _ _
   | exact spec_l7At.mono _ _ _ _ _ _
   | exact spec_l7Put.mono _ _ _ _
   | exact LeO.none _
   | refine LeO.ite ?_ ?_
   | refine LeO.bind ?_ (fun _ => ?_)
def spec_AllowedStacks.T12 : Bool × List (List Nat × List Nat) := (true, [([], []), ([], []), ([], []), ([], []), ([], []), ([4], [4]), ([], []), ([5, 6], [5, 6]), ([7], [7]), ([8], [8]), ([0, 1, 2, 3, 9], [0, 1, 2, 3, 9]), ([10], [10]), ([11], [11])])
def spec_AllowedStacks.B12 : List Nat := [0, 0, 0, 0, 0, 16, 0, 112, 240, 496, 1023, 2047, 4095]
theorem spec_AllowedStacks.tab12 : rtab .any (opsOf Try.f25 12) = spec_AllowedStacks.T12 := by kernel_rfl
theorem spec_AllowedStacks.bits12 : waitsOk spec_AllowedStacks.T12.2 spec_AllowedStacks.B12 = true := by kernel_rfl
set_option maxHeartbeats 8000000 in
set_option maxRecDepth 100000 in
theorem spec_AllowedStacks.calls (k : Nat) (A0_0 : Option Addr) (c0_0 : Nat) (l0_0 : List (List Int)) (A1 : Option Addr) (c1 : Nat) (l1 : List (S61)) (a2 : Int) (a3 : Int) (r1 : List Int) (r2 : Bool) (w : World) (hr0_0 : Kd.C (Kd.slice 3 (Kd.int .i64)) w A0_0 l0_0.length l0_0) (hc0_0 : l0_0.length ≤ c0_0) (hr1 : Kd.C k61 w A1 l1.length l1) (hc1 : l1.length ≤ c1) (h : spec_AllowedStacks.f k l0_0 l1 a2 a3 = some (r1, r2)) :
  Calls Try.prog 25 #[.agg #[.slice A0_0 l0_0.length c0_0], .slice A1 l1.length c1, .int .i64 a2, .int .i64 a3] w fun e w' => ∃ v0_ : Value, e = .returned (.tuple #[v0_, .bool r2]) ∧ Kd.R (Kd.int .i64) 3 w' w.heap.size (fun _ => True) v0_ r1 ∧ Below w.heap.size w w' := by
 have hu31 := Try.underlying31
 have HR0_0 := Aside0.mk hr0_0
 have HC0_0 := Aside0.mk hc0_0
 clear hr0_0 hc0_0
 have HR1 := Aside0.mk hr1
 have HC1 := Aside0.mk hc1
 clear hr1 hc1
 have HB := Aside0.mk (Below.refl w.heap.size w)
 have H : ((some (([] : List Int) : List Int)).bind fun y257 => ((spec_l7Asked.f k l0_0 l1 a2).bind fun t260 => (if t260 = true then ((spec_l1In.f a3 1 (l1.length : Int)).bind fun t261 => (spec_AllowedStacks.j0 k l1 a2 a3 y257 (!t261) l0_0)) else (spec_AllowedStacks.j0 k l1 a2 a3 y257 true l0_0)))) = some (r1, r2) := h
 clear h
 obtain ⟨y257, hy257⟩ : ∃ y_ : List Int, y_ = (([] : List Int)) := ⟨_, rfl⟩
 replace H : ((spec_l7Asked.f k l0_0 l1 a2).bind fun t260 => (if t260 = true then ((spec_l1In.f a3 1 (l1.length : Int)).bind fun t261 => (spec_AllowedStacks.j0 k l1 a2 a3 y257 (!t261) l0_0)) else (spec_AllowedStacks.j0 k l1 a2 a3 y257 true l0_0))) = some (r1, r2) := by first | (rw [hy257]; with_reducible exact H) | (have H2_ := (Option.bind_some _ _).symm.trans H; rw [hy257]; with_reducible exact H2_) | (have H2_ := (Option.bind_some _ _).symm.trans H; with_reducible exact H2_) | with_reducible exact H | (rw [hy257]; exact H) | exact H
 have Ny257 := Aside0.mk hy257
 clear hy257
 have HC5 := Aside0.mk H
 clear H
 go_enter Try.func25, Try.ntmps25
 go_upto_region 2 with (first | ((with_reducible refine gate_dst (N := 4) rfl ?_); (try (refine gate_guard (by rfl) ?_; dsimp only)); refine box_event ?hg (N := 4) ?hd (cs := #[.slice A0_0 l0_0.length c0_0]) (t := 31) ?hr ?_; (case hd => rfl); (case hg => rfl); (case hr => first | (go_simp; done) | (go_simp; rfl)); intro gb256 hg w6 hbox hb; have n0_ := Aside0.mk (below_step (bel HB) hb); have n1_ := Aside0.mk (hbox); have n2_ := Aside0.mk ((by rw [hg]; exact (below_size (bel HB)) : w.heap.size ≤ gb256)); have n3_ := Aside0.mk ((by rw [hg]; exact (below_size (bel HB)) : w.heap.size ≤ gb256)); clear HB; have HB := n0_; have BK256 := n1_; have GW256 := n2_; have GE256 := n3_; clear n0_ n1_ n2_ n3_; clear hb hbox hg) | ((with_reducible refine gate_dst (N := 15) rfl ?_); (try (refine gate_guard (by rfl) ?_; dsimp only)); refine Kd.R_lit (Kd.int .i64) _ 3 ?hg (N := 15) ?hd (xs := ([] : List Int)) (inner := []) (ok := fun _ => True) (okp := fun _ => True) ?hr ?hp (fun _ hk => hk) trivial (Below.refl _ _) (Nat.le_refl _) (by simp) ?_; (case hd => rfl); (case hg => rfl); (case hr => first | (go_simp; done) | (go_simp; rfl)); (case hp => exact (Reps.none _ _)); intro v258 w7 ho8 hb hg_ hnew_; clear hg_ hnew_; (first | rw [← Ny257.out] at ho8 | (simp only [Int.reduceToNat] at ho8; rw [← Ny257.out] at ho8)); have n0_ := Aside0.mk (Kd.R_lower ho8 (below_size (bel1 HB GE256))); have n1_ := Aside0.mk (blk_below (g := gb256) (o := .cells #[.slice A0_0 l0_0.length c0_0] 31 (0, 0)) (bkl BK256) hb); have n2_ := Aside0.mk (below_step (bel1 HB GE256) hb); clear BK256; clear HB; have HO259 := n0_; have BK256 := n1_; have HB := n2_; clear n0_ n1_ n2_; clear hb ho8))
 (try simp only [Act.put, List.setIfInBounds_toArray, List.set_cons_zero, List.set_cons_succ])
 go_cut [27] (fun v27 wc => ∃ (kq : Nat) (x27_4 : Bool), v27 = .bool x27_4 ∧ Aside0 (spec_AllowedStacks.j0 kq l1 a2 a3 y257 x27_4 l0_0 = some (r1, r2)) ∧ Aside0 (kq ≤ k) ∧ Aside0 (Kd.R (Kd.int .i64) 3 wc w.heap.size (fun _ => True) v258 y257) ∧ Aside0 (wc.heap[gb256]? = some (.cells #[(.slice A0_0 l0_0.length c0_0)] 31 (0, 0))) ∧ Aside0 (Below w.heap.size w wc))
 case first =>
  have H := HC5.out
  clear HC5
  replace H := Option.bind_eq_some_iff.mp H
  obtain ⟨t260, A90, H⟩ := H
  replace H : (if t260 = true then ((spec_l1In.f a3 1 (l1.length : Int)).bind fun t261 => (spec_AllowedStacks.j0 k l1 a2 a3 y257 (!t261) l0_0)) else (spec_AllowedStacks.j0 k l1 a2 a3 y257 true l0_0)) = some (r1, r2) := H
  have A9 := Aside0.mk A90
  clear A90
  by_cases c10 : t260 = true
  ·subst c10
   have H1 : ((spec_l1In.f a3 1 (l1.length : Int)).bind fun t261 => (spec_AllowedStacks.j0 k l1 a2 a3 y257 (!t261) l0_0)) = some (r1, r2) := by rw [if_pos rfl] at H; exact H
   clear H
   have H := H1
   clear H1
   replace H := Option.bind_eq_some_iff.mp H
   obtain ⟨t261, A110, H⟩ := H
   replace H : (spec_AllowedStacks.j0 k l1 a2 a3 y257 (!t261) l0_0) = some (r1, r2) := H
   have A11 := Aside0.mk A110
   clear A110
   have H' := Aside0.mk H
   clear H
   have hcz12_0 : w7.cell? ⟨gb256, 0, none⟩ = some (.slice A0_0 l0_0.length c0_0) := (blk_cell BK256.out 0).trans rfl
   have hfz12_0 := blk_frozen BK256.out 0
   go_wp2_with (first | ((with_reducible refine gate_callee (f := 34) rfl ?_); refine goesL_ (some 19) rfl rfl Try.func34 (by kernel_rfl) rfl #[.agg #[.slice A0_0 l0_0.length c0_0], .slice A1 l1.length c1, .int .i64 a2] rfl gmp ?_; (with_reducible refine (spec_l7Asked.calls k _ _ l0_0 _ _ l1 a2 true _ ?side1 ?side2 ?side3 ?side4 A9.out).mono ?_); (case side1 => exact cdl (Kd.C_below HR0_0.out HB.out)); (case side2 => exact HC0_0.out); (case side3 => exact cdl (Kd.C_below HR1.out HB.out)); (case side4 => exact HC1.out); rintro e w13 ⟨rfl, hb⟩; refine ⟨_, rfl, ?_⟩; have n0_ := Aside0.mk (Kd.R_below (rdl HO259) hb); have n1_ := Aside0.mk (blk_below (g := gb256) (o := .cells #[.slice A0_0 l0_0.length c0_0] 31 (0, 0)) (bkl BK256) hb); have n2_ := Aside0.mk (below_step (bel1 HB GE256) hb); clear HO259; clear BK256; clear HB; have HO259 := n0_; have BK256 := n1_; have HB := n2_; clear n0_ n1_ n2_; (try clear hb); (try clear hb2); (try clear hk); (try clear hi)) | (go_at_call 43; (with_reducible refine (spec_l1In.calls a3 1 (l1.length : Int) t261 _ A11.out).mono ?_); rintro e w' ⟨rfl, ⟨nd, rfl⟩⟩))
   go_meet
   case rel => exact ⟨_, (!t261), (by first | rfl | (simp; done) | (simp [*]; done)), H', ⟨by first | omega | exact Nat.le_refl _⟩, ⟨rdl HO259⟩, ⟨bkl BK256⟩, ⟨bel1 HB GE256⟩⟩
  ·replace c10 := Bool.eq_false_iff.mpr c10
   subst c10
   have H1 : (spec_AllowedStacks.j0 k l1 a2 a3 y257 true l0_0) = some (r1, r2) := by rw [if_neg (show ¬ (false = true) by decide)] at H; exact H
   clear H
   have H := H1
   clear H1
   have H' := Aside0.mk H
   clear H
   have hcz14_0 : w7.cell? ⟨gb256, 0, none⟩ = some (.slice A0_0 l0_0.length c0_0) := (blk_cell BK256.out 0).trans rfl
   have hfz14_0 := blk_frozen BK256.out 0
   go_wp2_with (first | ((with_reducible refine gate_callee (f := 34) rfl ?_); refine goesL_ (some 19) rfl rfl Try.func34 (by kernel_rfl) rfl #[.agg #[.slice A0_0 l0_0.length c0_0], .slice A1 l1.length c1, .int .i64 a2] rfl gmp ?_; (with_reducible refine (spec_l7Asked.calls k _ _ l0_0 _ _ l1 a2 false _ ?side1 ?side2 ?side3 ?side4 A9.out).mono ?_); (case side1 => exact cdl (Kd.C_below HR0_0.out HB.out)); (case side2 => exact HC0_0.out); (case side3 => exact cdl (Kd.C_below HR1.out HB.out)); (case side4 => exact HC1.out); rintro e w15 ⟨rfl, hb⟩; refine ⟨_, rfl, ?_⟩; have n0_ := Aside0.mk (Kd.R_below (rdl HO259) hb); have n1_ := Aside0.mk (blk_below (g := gb256) (o := .cells #[.slice A0_0 l0_0.length c0_0] 31 (0, 0)) (bkl BK256) hb); have n2_ := Aside0.mk (below_step (bel1 HB GE256) hb); clear HO259; clear BK256; clear HB; have HO259 := n0_; have BK256 := n1_; have HB := n2_; clear n0_ n1_ n2_; (try clear hb); (try clear hb2); (try clear hk); (try clear hi)))
   go_meet
   case rel => exact ⟨_, (true), (by first | rfl | (simp; done) | (simp [*]; done)), H', ⟨by first | omega | exact Nat.le_refl _⟩, ⟨rdl HO259⟩, ⟨bkl BK256⟩, ⟨bel1 HB GE256⟩⟩
 case rest =>
  clear HC5
  try clear c1
  try clear c2
  try clear p2
  try clear c3
  try clear c10
  try clear hcz12_0
  try clear hcz14_0
  try clear hfz12_0
  try clear hfz14_0
  obtain ⟨kq, x27_4, rfl, HA, HJ4, HO_10, BK256, HB⟩ := hcut
  cases kq with
  | zero => exact absurd HA.out (by simp [spec_AllowedStacks.j0])
  | succ kj4 =>
   have H := HA.out
   clear HA
   simp only [spec_AllowedStacks.j0] at H
   by_cases c16 : x27_4 = true
   ·subst c16
    have H1 : (some (y257, false)) = some (r1, r2) := by rw [if_pos rfl] at H; exact H
    clear H
    have H := H1
    clear H1
    simp only [Option.some.injEq, Prod.mk.injEq] at H
    obtain ⟨rfl, rfl⟩ := H
    go_wp2
    go_ret2
    exact ⟨_, by first | rfl | (simp [errW_none, errW_some] <;> rfl) | (simp [*, errW_none, errW_some] <;> rfl), rdl HO_10, bel1 HB GE256⟩
   ·replace c16 := Bool.eq_false_iff.mpr c16
    subst c16
    have H1 : ((spec_l5Find.f kj4 l0_0 a3).bind fun bt262 => (if bt262.1 ≥ 0 then (some (y257, false)) else (spec_AllowedStacks.l0 kj4 l1 a2 a3 y257 0 l0_0))) = some (r1, r2) := by rw [if_neg (show ¬ (false = true) by decide)] at H; exact H
    clear H
    have H := H1
    clear H1
    replace H := Option.bind_eq_some_iff.mp H
    obtain ⟨⟨t262, t263⟩, A170, H⟩ := H
    replace H : (if t262 ≥ 0 then (some (y257, false)) else (spec_AllowedStacks.l0 kj4 l1 a2 a3 y257 0 l0_0)) = some (r1, r2) := H
    have A17 := Aside0.mk A170
    clear A170
    by_cases c18 : t262 ≥ 0
    ·rw [if_pos c18] at H
     have c18b0 : decide (0 ≤ t262) = true := decide_eq_true c18
     clear c18
     simp only [Option.some.injEq, Prod.mk.injEq] at H
     obtain ⟨rfl, rfl⟩ := H
     have hcz19_0 : wc.cell? ⟨gb256, 0, none⟩ = some (.slice A0_0 l0_0.length c0_0) := (blk_cell BK256.out 0).trans rfl
     have hfz19_0 := blk_frozen BK256.out 0
     go_wp2_with (first | ((with_reducible refine gate_callee (f := 44) rfl ?_); refine goesL_ (some 32) rfl rfl Try.func44 (by kernel_rfl) rfl #[.agg #[.slice A0_0 l0_0.length c0_0], .int .i64 a3] rfl gmp ?_; (with_reducible refine (spec_l5Find.calls kj4 _ _ l0_0 a3 t262 t263 _ ?side1 ?side2 A17.out).mono ?_); (case side1 => exact cdl (Kd.C_below HR0_0.out HB.out)); (case side2 => exact HC0_0.out); rintro e w20 ⟨rfl, hb⟩; refine ⟨_, rfl, ?_⟩; have n0_ := Aside0.mk (Kd.R_below (rdl HO_10) hb); have n1_ := Aside0.mk (blk_below (g := gb256) (o := .cells #[.slice A0_0 l0_0.length c0_0] 31 (0, 0)) (bkl BK256) hb); have n2_ := Aside0.mk (below_step (bel1 HB GE256) hb); clear HO_10; clear BK256; clear HB; have HO_10 := n0_; have BK256 := n1_; have HB := n2_; clear n0_ n1_ n2_; (try clear hb); (try clear hb2); (try clear hk); (try clear hi)))
     go_ret2
     exact ⟨_, by first | rfl | (simp [errW_none, errW_some] <;> rfl) | (simp [*, errW_none, errW_some] <;> rfl), rdl HO_10, bel1 HB GE256⟩
    ·rw [if_neg c18] at H
     have c18b0 : decide (0 ≤ t262) = false := decide_eq_false c18
     clear c18
     have H' := Aside0.mk H
     clear H
     have hcz21_0 : wc.cell? ⟨gb256, 0, none⟩ = some (.slice A0_0 l0_0.length c0_0) := (blk_cell BK256.out 0).trans rfl
     have hfz21_0 := blk_frozen BK256.out 0
     go_wp2_with (first | ((with_reducible refine gate_callee (f := 44) rfl ?_); refine goesL_ (some 32) rfl rfl Try.func44 (by kernel_rfl) rfl #[.agg #[.slice A0_0 l0_0.length c0_0], .int .i64 a3] rfl gmp ?_; (with_reducible refine (spec_l5Find.calls kj4 _ _ l0_0 a3 t262 t263 _ ?side1 ?side2 A17.out).mono ?_); (case side1 => exact cdl (Kd.C_below HR0_0.out HB.out)); (case side2 => exact HC0_0.out); rintro e w22 ⟨rfl, hb⟩; refine ⟨_, rfl, ?_⟩; have n0_ := Aside0.mk (Kd.R_below (rdl HO_10) hb); have n1_ := Aside0.mk (blk_below (g := gb256) (o := .cells #[.slice A0_0 l0_0.length c0_0] 31 (0, 0)) (bkl BK256) hb); have n2_ := Aside0.mk (below_step (bel1 HB GE256) hb); clear HO_10; clear BK256; clear HB; have HO_10 := n0_; have BK256 := n1_; have HB := n2_; clear n0_ n1_ n2_; (try clear hb); (try clear hb2); (try clear hk); (try clear hi)))
     go_loopg [10, 13] kj4 (fun kq v10 v13 w' => ∃ (x10_2 : List Int) (x13_2 : Int), v13 = .int .i64 x13_2 ∧ Aside0 (spec_AllowedStacks.l0 kq l1 a2 a3 x10_2 x13_2 l0_0 = some (r1, r2)) ∧ Aside0 (kq ≤ kj4) ∧ Aside0 (Kd.R (Kd.int .i64) 3 w' w.heap.size (fun _ => True) v10 x10_2) ∧ Aside0 (w'.heap[gb256]? = some (.cells #[(.slice A0_0 l0_0.length c0_0)] 31 (0, 0))) ∧ Aside0 (Below w.heap.size w w'))
     case atStart => exact ⟨(y257), (0), (by first | rfl | (simp; done) | (simp [*]; done)), H', ⟨Nat.le_refl _⟩, ⟨rdl HO_10⟩, ⟨bkl BK256⟩, ⟨bel1 HB GE256⟩⟩
     case round =>
      clear H'
      try clear c1
      try clear c2
      try clear p2
      try clear c3
      try clear c4
      try clear c10
      try clear c16
      try clear c18
      try clear c18b0
      try clear hcz12_0
      try clear hcz14_0
      try clear hcz19_0
      try clear hcz21_0
      try clear hfz12_0
      try clear hfz14_0
      try clear hfz19_0
      try clear hfz21_0
      try clear p2
      obtain ⟨x10_2, x13_2, rfl, HA, HK2, HO_10, BK256, HB⟩ := hrel
      cases gk with
      | zero => exact absurd HA.out (by simp [spec_AllowedStacks.l0])
      | succ k2 =>
       have H := HA.out
       clear HA
       simp only [spec_AllowedStacks.l0] at H
       by_cases c23 : x13_2 < (l0_0.length : Int)
       ·rw [if_pos c23] at H
        have c23b0 : decide (x13_2 < (l0_0.length : Int)) = true := decide_eq_true c23
        clear c23
        by_cases c24 : 0 ≤ x13_2
        ·rw [if_pos c24] at H
         have c24b0 : decide (0 ≤ x13_2) = true := decide_eq_true c24
         clear c24
         by_cases c25 : ((rd_L1 l0_0 x13_2).length : Int) = 4
         ·rw [if_pos c25] at H
          have c25b0 : (((rd_L1 l0_0 x13_2).length : Int) == 4) = true := beq_iff_eq.mpr c25
          have c25b1 : (((rd_L1 l0_0 x13_2).length : Int) != 4) = false := bne_eq_false_iff_eq.mpr c25
          clear c25
          have H' := Aside0.mk H
          clear H
          have hcz26_0 : wr.cell? ⟨gb256, 0, none⟩ = some (.slice A0_0 l0_0.length c0_0) := (blk_cell BK256.out 0).trans rfl
          have hfz26_0 := blk_frozen BK256.out 0
          have p264 : 0 ≤ (x13_2 : Int) := oda
          have q264 : x13_2 < (l0_0.length : Int) := oda
          obtain ⟨ad264, A264_0, c264_0, e264, hx264_0, hl264_0, hi264_0⟩ := at_L1 HR0_0.out x13_2 p264 q264
          cases e264
          replace hx264_0 := cel HB hx264_0
          have HR264_0 := Aside0.mk hi264_0
          have HC264_0 := Aside0.mk hl264_0
          clear hi264_0 hl264_0
          replace p264 := eq_true p264
          replace q264 := eq_true q264
          go_wp2
          go_roundg k2
          case measure => have := HJ4.out; have := HK2.out; omega
          case rel => exact ⟨(x10_2), (wrap64 (x13_2 + 1)), (by first | rfl | (simp; done) | (simp [*]; done)), H', ⟨by have := HJ4.out; have := HK2.out; omega⟩, ⟨rdl HO_10⟩, ⟨bkl BK256⟩, ⟨bel1 HB GE256⟩⟩
         ·rw [if_neg c25] at H
          have c25b0 : (((rd_L1 l0_0 x13_2).length : Int) == 4) = false := beq_eq_false_iff_ne.mpr c25
          have c25b1 : (((rd_L1 l0_0 x13_2).length : Int) != 4) = true := bne_iff_ne.mpr c25
          replace H := Option.bind_eq_some_iff.mp H
          obtain ⟨t265, A270, H⟩ := H
          replace H : ((spec_l7At.f k2 t265 l1 a2 x13_2 ((rd_L1 l0_0 x13_2).length : Int)).bind fun t270 => (if (t270.length : Int) = 0 then (if x10_2.length < 17592186044416 then (spec_AllowedStacks.l0 k2 l1 a2 a3 (x10_2 ++ [x13_2]) (wrap64 (x13_2 + 1)) l0_0) else (none)) else (spec_AllowedStacks.l0 k2 l1 a2 a3 x10_2 (wrap64 (x13_2 + 1)) l0_0))) = some (r1, r2) := H
          have A27 := Aside0.mk A270
          clear A270
          replace H := Option.bind_eq_some_iff.mp H
          obtain ⟨t270, A280, H⟩ := H
          replace H : (if (t270.length : Int) = 0 then (if x10_2.length < 17592186044416 then (spec_AllowedStacks.l0 k2 l1 a2 a3 (x10_2 ++ [x13_2]) (wrap64 (x13_2 + 1)) l0_0) else (none)) else (spec_AllowedStacks.l0 k2 l1 a2 a3 x10_2 (wrap64 (x13_2 + 1)) l0_0)) = some (r1, r2) := H
          have A28 := Aside0.mk A280
          clear A280
          by_cases c29 : (t270.length : Int) = 0
          ·rw [if_pos c29] at H
           have c29b0 : ((t270.length : Int) == 0) = true := beq_iff_eq.mpr c29
           have c29b1 : ((t270.length : Int) != 0) = false := bne_eq_false_iff_eq.mpr c29
           clear c29
           by_cases c30 : x10_2.length < 17592186044416
           ·rw [if_pos c30] at H
            have LMc30 := Aside0.mk c30
            clear c30
            obtain ⟨y273, hy273⟩ : ∃ y_ : List Int, y_ = (x10_2 ++ [x13_2]) := ⟨_, rfl⟩
            replace H : (spec_AllowedStacks.l0 k2 l1 a2 a3 y273 (wrap64 (x13_2 + 1)) l0_0) = some (r1, r2) := by first | (rw [hy273]; with_reducible exact H) | (have H2_ := (Option.bind_some _ _).symm.trans H; rw [hy273]; with_reducible exact H2_) | (have H2_ := (Option.bind_some _ _).symm.trans H; with_reducible exact H2_) | with_reducible exact H | (rw [hy273]; exact H) | exact H
            have Ny273 := Aside0.mk hy273
            clear hy273
            have H' := Aside0.mk H
            clear H
            have hcz31_0 : wr.cell? ⟨gb256, 0, none⟩ = some (.slice A0_0 l0_0.length c0_0) := (blk_cell BK256.out 0).trans rfl
            have hfz31_0 := blk_frozen BK256.out 0
            have p264 : 0 ≤ (x13_2 : Int) := oda
            have q264 : x13_2 < (l0_0.length : Int) := oda
            obtain ⟨ad264, A264_0, c264_0, e264, hx264_0, hl264_0, hi264_0⟩ := at_L1 HR0_0.out x13_2 p264 q264
            cases e264
            replace hx264_0 := cel HB hx264_0
            have HR264_0 := Aside0.mk hi264_0
            have HC264_0 := Aside0.mk hl264_0
            clear hi264_0 hl264_0
            replace p264 := eq_true p264
            replace q264 := eq_true q264
            try go_wp2_with (first | ((with_reducible refine gate_callee (f := 45) rfl ?_); refine goesL_ (some 55) rfl rfl Try.func45 (by kernel_rfl) rfl #[.agg #[.slice (some ad264) l0_0.length c0_0], .int .i64 x13_2, .int .i64 a3] rfl gmp ?_; (with_reducible refine (spec_l7Put.calls k2 _ _ l0_0 x13_2 a3 t265 _ ?side1 ?side2 A27.out).mono ?_); (case side1 => exact cdl (Kd.C_below HR0_0.out HB.out)); (case side2 => exact HC0_0.out); rintro e w32 ⟨v266, rfl, ho0, hb⟩; refine ⟨_, rfl, ?_⟩; have n0_ := Aside0.mk (Kd.R_below (rdl HO_10) hb); have n1_ := Aside0.mk (Kd.S_lower (Kd.S_new' ho0 (Kd.R_lt (rdl HO_10))) (below_size (bel1 HB GE256))); have n2_ := Aside0.mk (blk_below (g := gb256) (o := .cells #[.slice (some ad264) l0_0.length c0_0] 31 (0, 0)) (bkl BK256) hb); have n3_ := Aside0.mk (below_step (bel1 HB GE256) hb); clear HO_10; clear BK256; clear HB; have HO_10 := n0_; have HO267 := n1_; have BK256 := n2_; have HB := n3_; clear n0_ n1_ n2_ n3_; (try clear hb); (try clear hb2); (try clear hk); (try clear hi); (try clear ho0)) | ((with_reducible refine gate_dst (N := 14) rfl ?_); (try (refine gate_guard (by rfl) ?_; dsimp only)); refine box_event ?hg (N := 14) ?hd (cs := #[.slice none 0 0]) (t := 31) ?hr ?_; (case hd => rfl); (case hg => rfl); (case hr => first | (go_simp; done) | (go_simp; rfl)); intro gb268 hg w33 hbox hb; have n0_ := Aside0.mk (Kd.R_below (rdl HO_10) hb); have n1_ := Aside0.mk (Kd.S_below (sdl HO267) hb); have n2_ := Aside0.mk (blk_below (g := gb256) (o := .cells #[.slice (some ad264) l0_0.length c0_0] 31 (0, 0)) (bkl BK256) hb); have n3_ := Aside0.mk (below_step (bel1 HB GE256) hb); have n4_ := Aside0.mk (hbox); have n5_ := Aside0.mk ((by rw [hg]; exact (below_size (bel1 HB GE256)) : w.heap.size ≤ gb268)); have n6_ := Aside0.mk ((by rw [hg]; exact (below_size (bel1 HB GE256)) : w.heap.size ≤ gb268)); have n7_ := Aside0.mk ((by rw [hg]; exact Nat.ne_of_lt (blk_lt (g := gb256) (o := .cells #[.slice (some ad264) l0_0.length c0_0] 31 (0, 0)) (bkl BK256)) : gb256 ≠ gb268)); have n8_ := Aside0.mk ((by rw [hg]; exact Nat.ne_of_gt (blk_lt (g := gb256) (o := .cells #[.slice (some ad264) l0_0.length c0_0] 31 (0, 0)) (bkl BK256)) : gb268 ≠ gb256)); clear HO_10; clear HO267; clear BK256; clear HB; have HO_10 := n0_; have HO267 := n1_; have BK256 := n2_; have HB := n3_; have BK268 := n4_; have GW268 := n5_; have GE268 := n6_; have NB256_268 := n7_; have NB268_256 := n8_; clear n0_ n1_ n2_ n3_ n4_ n5_ n6_ n7_ n8_; clear hb hbox hg; obtain ⟨Ao34, co34, eo34⟩ := Kd.S_slice HO267.out; subst eo34; have hnb35 := NB268_256.out; have hnc35 := NB256_268.out; have hcz36_0 : w33.cell? ⟨gb268, 0, none⟩ = some (.slice none 0 0) := (blk_cell BK268.out 0).trans rfl; have hfz36_0 := blk_frozen BK268.out 0))
            have n0_ : Aside0 (Kd.R (Kd.int .i64) 3 (w33.setCell ⟨gb268, 0, none⟩ (.slice Ao34 t265.length co34)) w.heap.size (fun _ => True) u10 x10_2) := ⟨by (with_reducible repeat (first | apply Kd.R_alloc | apply Kd.R_drewN | apply Kd.R_drew)); exact Kd.R_mono (Kd.R_far (p := ⟨gb268, 0, none⟩) (Kd.R_types HO_10.out BK268.out (by decide)) (fun _ hk => hk.2) (.slice Ao34 t265.length co34)) (fun _ hk => trivial)⟩
            have n1_ : Aside0 (Kd.S (Kd.slice 3 (Kd.int .i64)) 28 (w33.setCell ⟨gb268, 0, none⟩ (.slice Ao34 t265.length co34)) w.heap.size (fun k_ => some k_ ≠ (u10 : Value).ownBlock) (.slice Ao34 t265.length co34) t265) := ⟨by (with_reducible repeat (first | apply Kd.S_alloc | apply Kd.S_drewN | apply Kd.S_drew)); exact Kd.S_mono (Kd.S_far (p := ⟨gb268, 0, none⟩) (Kd.S_types HO267.out BK268.out (by decide)) (fun _ hk => hk.2) (.slice Ao34 t265.length co34)) (fun _ hk => hk.1.2)⟩
            have n2_ : Aside0 ((w33.setCell ⟨gb268, 0, none⟩ (.slice Ao34 t265.length co34)).heap[gb256]? = some (.cells #[.slice (some ad264) l0_0.length c0_0] 31 (0, 0))) := ⟨by (with_reducible repeat (first | refine blk_drewN ?_ _ | refine blk_drew ?_ | refine blk_alloc ?_ _)); refine blk_far ?_ NB256_268.out _; (with_reducible repeat (first | refine blk_drewN ?_ _ | refine blk_drew ?_ | refine blk_alloc ?_ _)); exact BK256.out⟩
            have n3_ : Aside0 ((w33.setCell ⟨gb268, 0, none⟩ (.slice Ao34 t265.length co34)).heap[gb268]? = some (.cells #[.slice Ao34 t265.length co34] 31 (0, 0))) := ⟨by (with_reducible repeat (first | refine blk_drewN ?_ _ | refine blk_drew ?_ | refine blk_alloc ?_ _)); refine blk_put (cs := #[.slice none 0 0]) ?_ 0 _ rfl; (with_reducible repeat (first | refine blk_drewN ?_ _ | refine blk_drew ?_ | refine blk_alloc ?_ _)); exact BK268.out⟩
            have n4_ : Aside0 (Below w.heap.size w (w33.setCell ⟨gb268, 0, none⟩ (.slice Ao34 t265.length co34))) := ⟨bel2 HB GE256 GE268⟩
            (try clear HO_10)
            (try clear HO267)
            (try clear BK256)
            (try clear BK268)
            (try clear HB)
            generalize (w33.setCell ⟨gb268, 0, none⟩ (.slice Ao34 t265.length co34)) = w37 at n0_ n1_ n2_ n3_ n4_ ⊢
            have HO_10 := n0_
            have HO267 := n1_
            have BK256 := n2_
            have BK268 := n3_
            have HB := n4_
            clear n0_ n1_ n2_ n3_ n4_
            have n0_ := Aside0.mk (Kd.R_drew HO_10.out)
            have n1_ := Aside0.mk (Kd.S_drew HO267.out)
            have n2_ := Aside0.mk (blk_drew BK256.out)
            have n3_ := Aside0.mk (blk_drew BK268.out)
            have n4_ := Aside0.mk (below_drew1 HB.out)
            clear HO_10
            clear HO267
            clear BK256
            clear BK268
            clear HB
            have HO_10 := n0_
            have HO267 := n1_
            have BK256 := n2_
            have BK268 := n3_
            have HB := n4_
            clear n0_ n1_ n2_ n3_ n4_
            have p269 : 0 ≤ (x13_2 : Int) := oda
            have q269 : x13_2 < (l0_0.length : Int) := oda
            obtain ⟨ad269, A269_0, c269_0, e269, hx269_0, hl269_0, hi269_0⟩ := at_L1 HR0_0.out x13_2 p269 q269
            have hw269_0 := hx269_0
            obtain rfl : ad264 = ad269 := (by injection e269)
            replace hx269_0 := cel HB hx269_0
            have HR269_0 := Aside0.mk hi269_0
            have HC269_0 := Aside0.mk hl269_0
            clear hi269_0 hl269_0
            replace p269 := eq_true p269
            replace q269 := eq_true q269
            refine start_ (n := 13) (S := fun w' => w'.cell? ⟨gb268, 0, none⟩ = some (.slice Ao34 t265.length co34) ∧ w'.cell? ⟨gb256, 0, none⟩ = some (.slice (some ad264) l0_0.length c0_0) ∧ w'.cell? (ad264.add (x13_2).toNat) = some (.slice A269_0 (rd_L1 l0_0 x13_2).length c269_0)) (ds := []) #[false, false, false, false, false, false, false, false, false, false, false, false, false] (by kernel_rfl) rfl rfl ⟨(blk_cell BK268.out 0).trans rfl, (blk_cell BK256.out 0).trans rfl, (cel HB hw269_0 :)⟩ (fun hHeld => ?_); refine with_tabW spec_AllowedStacks.tab12 spec_AllowedStacks.bits12 (fun HT_ HW_ => ?_)
            generalize w37.drew = w38 at HO_10 HO267 BK256 BK268 HB HR269_0 hx269_0 hHeld ⊢
            refine pure_ (i := 1) (N := some 57) (v := ?_) (a' := ?_) #[false, true, false, false, false, false, false, false, false, false, false, false, false] rfl rfl (any_of HT_.out (by kernel_rfl)) (fun _ _ _ h => h) (Or.inl ⟨by rfl, ?_⟩) ?_ ?_
            rotate_left
            ·intro w'
             go_simp
             with_reducible rfl
            rotate_left
            ·simp only [Act.put, List.setIfInBounds_toArray, List.set_cons_zero, List.set_cons_succ, i64_w, i32_w]
             rfl
            refine pure_ (i := 2) (N := some 58) (v := ?_) (a' := ?_) #[false, true, true, false, false, false, false, false, false, false, false, false, false] rfl rfl (any_of HT_.out (by kernel_rfl)) (fun _ _ _ h => h) (Or.inl ⟨by rfl, ?_⟩) ?_ ?_
            rotate_left
            ·intro w'
             go_simp
             with_reducible rfl
            rotate_left
            ·simp only [Act.put, List.setIfInBounds_toArray, List.set_cons_zero, List.set_cons_succ, i64_w, i32_w]
             rfl
            refine pure_ (i := 3) (N := some 59) (v := ?_) (a' := ?_) #[false, true, true, true, false, false, false, false, false, false, false, false, false] rfl rfl (any_of HT_.out (by kernel_rfl)) (fun _ _ _ h => h) (Or.inl ⟨by rfl, ?_⟩) ?_ ?_
            rotate_left
            ·intro w'
             go_simp
             with_reducible rfl
            rotate_left
            ·simp only [Act.put, List.setIfInBounds_toArray, List.set_cons_zero, List.set_cons_succ, i64_w, i32_w]
             rfl
            refine pure_ (i := 4) (N := some 60) (v := ?_) (a' := ?_) #[false, true, true, true, true, false, false, false, false, false, false, false, false] rfl rfl (any_of HT_.out (by kernel_rfl)) (fun _ _ _ h => h) (Or.inl ⟨by rfl, ?_⟩) ?_ ?_
            rotate_left
            ·intro w'
             go_simp
             with_reducible rfl
            rotate_left
            ·simp only [Act.put, List.setIfInBounds_toArray, List.set_cons_zero, List.set_cons_succ, i64_w, i32_w]
             rfl
            refine pure_ (i := 6) (N := some 62) (v := ?_) (a' := ?_) #[false, true, true, true, true, false, true, false, false, false, false, false, false] rfl rfl (any_of HT_.out (by kernel_rfl)) (fun _ _ _ h => h) (Or.inl ⟨by rfl, ?_⟩) ?_ ?_
            rotate_left
            ·intro w'
             go_simp
             with_reducible rfl
            rotate_left
            ·simp only [Act.put, List.setIfInBounds_toArray, List.set_cons_zero, List.set_cons_succ, i64_w, i32_w]
             rfl
            refine take_ (i := 0) (N := some 56) (v := ?_) (a' := ?_) #[true, true, true, true, true, false, true, false, false, false, false, false, false] rfl rfl (take_ofW HT_.out HW_.out (by kernel_rfl)) (fun _ _ _ h => h) (Or.inl ⟨by rfl, ?_⟩) hHeld ?_ ?_
            rotate_left
            ·rintro w' ⟨s0, s1, s2⟩
             go_simp
             with_reducible rfl
            rotate_left
            ·simp only [Act.put, List.setIfInBounds_toArray, List.set_cons_zero, List.set_cons_succ, i64_w, i32_w]
             rfl
            refine take_ (i := 5) (N := some 61) (v := ?_) (a' := ?_) #[true, true, true, true, true, true, true, false, false, false, false, false, false] rfl rfl (take_ofW HT_.out HW_.out (by kernel_rfl)) (fun _ _ _ h => h) (Or.inl ⟨by rfl, ?_⟩) hHeld ?_ ?_
            rotate_left
            ·rintro w' ⟨s0, s1, s2⟩
             go_simp
             with_reducible rfl
            rotate_left
            ·simp only [Act.put, List.setIfInBounds_toArray, List.set_cons_zero, List.set_cons_succ, i64_w, i32_w]
             rfl
            refine pure_ (i := 7) (N := some 63) (v := ?_) (a' := ?_) #[true, true, true, true, true, true, true, true, false, false, false, false, false] rfl rfl (any_of HT_.out (by kernel_rfl)) (fun _ _ _ h => h) (Or.inl ⟨by rfl, ?_⟩) ?_ ?_
            rotate_left
            ·intro w'
             go_simp
             with_reducible rfl
            rotate_left
            ·simp only [Act.put, List.setIfInBounds_toArray, List.set_cons_zero, List.set_cons_succ, i64_w, i32_w]
             rfl
            refine take_ (i := 8) (N := some 64) (v := ?_) (a' := ?_) #[true, true, true, true, true, true, true, true, true, false, false, false, false] rfl rfl (take_ofW HT_.out HW_.out (by kernel_rfl)) (fun _ _ _ h => h) (Or.inl ⟨by rfl, ?_⟩) hHeld ?_ ?_
            rotate_left
            ·rintro w' ⟨s0, s1, s2⟩
             go_simp
             with_reducible rfl
            rotate_left
            ·simp only [Act.put, List.setIfInBounds_toArray, List.set_cons_zero, List.set_cons_succ, i64_w, i32_w]
             rfl
            refine pure_ (i := 9) (N := some 65) (v := ?_) (a' := ?_) #[true, true, true, true, true, true, true, true, true, true, false, false, false] rfl rfl (any_of HT_.out (by kernel_rfl)) (fun _ _ _ h => h) (Or.inl ⟨by rfl, ?_⟩) ?_ ?_
            rotate_left
            ·intro w'
             go_simp
             with_reducible rfl
            rotate_left
            ·simp only [Act.put, List.setIfInBounds_toArray, List.set_cons_zero, List.set_cons_succ, i64_w, i32_w]
             rfl
            refine one_ (i := 10) (N := some 66) #[true, true, true, true, true, true, true, true, true, true, true, false, false] rfl rfl (one_of HT_.out (by kernel_rfl)) (by decide) (fun K hK => ?_)
            refine goes_ Try.func46 (by kernel_rfl) rfl #[.agg #[.slice Ao34 t265.length co34], .slice A1 l1.length c1, .int .i64 a2, .int .i64 x13_2, .int .i64 ((rd_L1 l0_0 x13_2).length : Int)] (by rfl) rfl rfl gmp ?_
            with_reducible refine (spec_l7At.calls k2 _ _ t265 _ _ l1 a2 x13_2 ((rd_L1 l0_0 x13_2).length : Int) t270 _ ?side1 ?side2 ?side3 ?side4 A28.out).mono ?_
            (case side1 => repeat (first | exact (Kd.S_reads' HO267.out).2.2 | (with_reducible refine Kd.C_alloc ?_ _) | (with_reducible refine Kd.C_drewN ?_ _) | (with_reducible refine Kd.C_drew ?_)))
            (case side2 => exact (Kd.S_reads' HO267.out).2.1)
            (case side3 => exact cdl (Kd.C_below HR1.out HB.out))
            (case side4 => exact HC1.out)
            rintro e w39 ⟨v271, rfl, ho0, hb⟩
            refine ⟨_, rfl, ?_⟩
            have n0_ := Aside0.mk (Kd.R_below (rdl HO_10) hb)
            have n1_ := Aside0.mk (Kd.S_below (sdl HO267) hb)
            have n2_ := Aside0.mk (Kd.R_lower ho0 (below_size (bel2 HB GE256 GE268)))
            have n3_ := Aside0.mk (blk_below (g := gb256) (o := .cells #[.slice (some ad264) l0_0.length c0_0] 31 (0, 0)) (bkl BK256) hb)
            have n4_ := Aside0.mk (blk_below (g := gb268) (o := .cells #[.slice Ao34 t265.length co34] 31 (0, 0)) (bkl BK268) hb)
            have n5_ := Aside0.mk (below_step (bel2 HB GE256 GE268) hb)
            clear HO_10
            clear HO267
            clear BK256
            clear BK268
            clear HB
            have HO_10 := n0_
            have HO267 := n1_
            have HO272 := n2_
            have BK256 := n3_
            have BK268 := n4_
            have HB := n5_
            clear n0_ n1_ n2_ n3_ n4_ n5_
            (try clear hb)
            (try clear hb2)
            (try clear hk)
            (try clear hi)
            (try clear ho0)
            obtain ⟨Ao40, co40, eo40⟩ := Kd.R_slice HO272.out
            (first | subst eo40 | (injection eo40 with f1_ f2_ f3_; have f4_ := f1_.symm; have f5_ := f3_.symm; clear f1_ f2_ f3_; subst f4_; subst f5_))
            refine hK.out _ _ ⟨(blk_cell BK268.out 0).trans rfl, (blk_cell BK256.out 0).trans rfl, (cel HB hw269_0 :)⟩ (fun hHeld => ?_)
            clear hK K
            refine norm_ (a' := ?_) ?_ ?_
            rotate_left
            ·show Act.put _ (some 66) _ = _
             simp only [Act.put, List.setIfInBounds_toArray, List.set_cons_zero, List.set_cons_succ, i64_w, i32_w]
             rfl
            refine pure_ (i := 11) (N := some 67) (v := ?_) (a' := ?_) #[true, true, true, true, true, true, true, true, true, true, true, true, false] rfl rfl (any_of HT_.out (by kernel_rfl)) (fun _ _ _ h => h) (Or.inl ⟨by rfl, ?_⟩) ?_ ?_
            rotate_left
            ·intro w'
             go_simp
             with_reducible rfl
            rotate_left
            ·simp only [Act.put, List.setIfInBounds_toArray, List.set_cons_zero, List.set_cons_succ, i64_w, i32_w]
             rfl
            refine pure_ (i := 12) (N := some 68) (v := ?_) (a' := ?_) #[true, true, true, true, true, true, true, true, true, true, true, true, true] rfl rfl (any_of HT_.out (by kernel_rfl)) (fun _ _ _ h => h) (Or.inl ⟨by rfl, ?_⟩) ?_ ?_
            rotate_left
            ·intro w'
             go_simp
             with_reducible rfl
            rotate_left
            ·simp only [Act.put, List.setIfInBounds_toArray, List.set_cons_zero, List.set_cons_succ, i64_w, i32_w]
             rfl
            refine done_ (done_of HT_.out (by kernel_rfl)) ?_
            try go_wp2_with (first | ((with_reducible refine gate_builtin (b := .append) (xs := #[.tmp 69, .tmp 71]) rfl ?_); (try (refine gate_guard (by rfl) ?_; dsimp only)); at_builtin; refine Kd.R_append (Kd.int .i64) (w0 := w) w.heap.size rfl (.tmp 69) (.tmp 71) 28 3 (.int .i64 0) 8 rfl Try.underlying28 info3 rfl (by decide) (by omega) u10 x10_2 x13_2 [.int .i64 x13_2] (fun _ => True) (fun _ => False) rfl rfl ?aP (fun _ hk => hk.elim) ?aF ?aO ?aB ?aS ?aL ?_; (case aP => exact rfl); (case aB => exact (bel2 HB GE256 GE268)); (case aF => exact (fun _ _ => trivial)); (case aO => exact (rdl HO_10)); (case aS => exact (below_size (bel2 HB GE256 GE268))); (case aL => have := LMc30.out; omega); intro v274 w41 ho hb hg hat; rw [← Ny273.out] at ho; have n0_ := Aside0.mk (blk_grown (g := gb256) (o := .cells #[.slice (some ad264) l0_0.length c0_0] 31 (0, 0)) (bkl BK256) hg (Kd.R_ne HO_10.out BK256.out (by decide))); have n1_ := Aside0.mk (Kd.S_after (ok := (fun _ => True)) (by (with_reducible repeat (first | apply Kd.S_alloc | apply Kd.S_drewN | apply Kd.S_drew)); exact Kd.S_mono HO267.out (fun _ hk => ⟨trivial, hk⟩)) hg hat); have n2_ := Aside0.mk (blk_grown (g := gb268) (o := .cells #[.slice Ao34 t265.length co34] 31 (0, 0)) (bkl BK268) hg (Kd.R_ne HO_10.out BK268.out (by decide))); have n3_ := Aside0.mk (Kd.R_over' (rdl HO272) (Kd.R_typed (rdl HO_10)) (by decide) hg); have n4_ := Aside0.mk (hb); have n5_ := Aside0.mk (ho); clear BK256; clear HO267; clear BK268; clear HO272; clear HB; clear HO_10; have BK256 := n0_; have HO267 := n1_; have BK268 := n2_; have HO272 := n3_; have HB := n4_; have HO275 := n5_; clear n0_ n1_ n2_ n3_ n4_ n5_; clear ho hb hg hat))
            go_roundg k2
            case measure => have := HJ4.out; have := HK2.out; omega
            case rel => exact ⟨(y273), (wrap64 (x13_2 + 1)), (by first | rfl | (simp; done) | (simp [*]; done)), H', ⟨by have := HJ4.out; have := HK2.out; omega⟩, ⟨rdl HO275⟩, ⟨bkl BK256⟩, ⟨bel2 HB GE256 GE268⟩⟩
           ·rw [if_neg c30] at H
            exact absurd H (by simp)
          ·rw [if_neg c29] at H
           have c29b0 : ((t270.length : Int) == 0) = false := beq_eq_false_iff_ne.mpr c29
           have c29b1 : ((t270.length : Int) != 0) = true := bne_iff_ne.mpr c29
           have c29b2 : ¬ (t270 = []) := fun h_ => c29 (by rw [h_]; rfl)
           have H' := Aside0.mk H
           clear H
           have hcz42_0 : wr.cell? ⟨gb256, 0, none⟩ = some (.slice A0_0 l0_0.length c0_0) := (blk_cell BK256.out 0).trans rfl
           have hfz42_0 := blk_frozen BK256.out 0
           have p264 : 0 ≤ (x13_2 : Int) := oda
           have q264 : x13_2 < (l0_0.length : Int) := oda
           obtain ⟨ad264, A264_0, c264_0, e264, hx264_0, hl264_0, hi264_0⟩ := at_L1 HR0_0.out x13_2 p264 q264
           cases e264
           replace hx264_0 := cel HB hx264_0
           have HR264_0 := Aside0.mk hi264_0
           have HC264_0 := Aside0.mk hl264_0
           clear hi264_0 hl264_0
           replace p264 := eq_true p264
           replace q264 := eq_true q264
           try go_wp2_with (first | ((with_reducible refine gate_callee (f := 45) rfl ?_); refine goesL_ (some 55) rfl rfl Try.func45 (by kernel_rfl) rfl #[.agg #[.slice (some ad264) l0_0.length c0_0], .int .i64 x13_2, .int .i64 a3] rfl gmp ?_; (with_reducible refine (spec_l7Put.calls k2 _ _ l0_0 x13_2 a3 t265 _ ?side1 ?side2 A27.out).mono ?_); (case side1 => exact cdl (Kd.C_below HR0_0.out HB.out)); (case side2 => exact HC0_0.out); rintro e w43 ⟨v266, rfl, ho0, hb⟩; refine ⟨_, rfl, ?_⟩; have n0_ := Aside0.mk (Kd.R_below (rdl HO_10) hb); have n1_ := Aside0.mk (Kd.S_lower (Kd.S_new' ho0 (Kd.R_lt (rdl HO_10))) (below_size (bel1 HB GE256))); have n2_ := Aside0.mk (blk_below (g := gb256) (o := .cells #[.slice (some ad264) l0_0.length c0_0] 31 (0, 0)) (bkl BK256) hb); have n3_ := Aside0.mk (below_step (bel1 HB GE256) hb); clear HO_10; clear BK256; clear HB; have HO_10 := n0_; have HO267 := n1_; have BK256 := n2_; have HB := n3_; clear n0_ n1_ n2_ n3_; (try clear hb); (try clear hb2); (try clear hk); (try clear hi); (try clear ho0)) | ((with_reducible refine gate_dst (N := 14) rfl ?_); (try (refine gate_guard (by rfl) ?_; dsimp only)); refine box_event ?hg (N := 14) ?hd (cs := #[.slice none 0 0]) (t := 31) ?hr ?_; (case hd => rfl); (case hg => rfl); (case hr => first | (go_simp; done) | (go_simp; rfl)); intro gb268 hg w44 hbox hb; have n0_ := Aside0.mk (Kd.R_below (rdl HO_10) hb); have n1_ := Aside0.mk (Kd.S_below (sdl HO267) hb); have n2_ := Aside0.mk (blk_below (g := gb256) (o := .cells #[.slice (some ad264) l0_0.length c0_0] 31 (0, 0)) (bkl BK256) hb); have n3_ := Aside0.mk (below_step (bel1 HB GE256) hb); have n4_ := Aside0.mk (hbox); have n5_ := Aside0.mk ((by rw [hg]; exact (below_size (bel1 HB GE256)) : w.heap.size ≤ gb268)); have n6_ := Aside0.mk ((by rw [hg]; exact (below_size (bel1 HB GE256)) : w.heap.size ≤ gb268)); have n7_ := Aside0.mk ((by rw [hg]; exact Nat.ne_of_lt (blk_lt (g := gb256) (o := .cells #[.slice (some ad264) l0_0.length c0_0] 31 (0, 0)) (bkl BK256)) : gb256 ≠ gb268)); have n8_ := Aside0.mk ((by rw [hg]; exact Nat.ne_of_gt (blk_lt (g := gb256) (o := .cells #[.slice (some ad264) l0_0.length c0_0] 31 (0, 0)) (bkl BK256)) : gb268 ≠ gb256)); clear HO_10; clear HO267; clear BK256; clear HB; have HO_10 := n0_; have HO267 := n1_; have BK256 := n2_; have HB := n3_; have BK268 := n4_; have GW268 := n5_; have GE268 := n6_; have NB256_268 := n7_; have NB268_256 := n8_; clear n0_ n1_ n2_ n3_ n4_ n5_ n6_ n7_ n8_; clear hb hbox hg; obtain ⟨Ao45, co45, eo45⟩ := Kd.S_slice HO267.out; subst eo45; have hnb46 := NB268_256.out; have hnc46 := NB256_268.out; have hcz47_0 : w44.cell? ⟨gb268, 0, none⟩ = some (.slice none 0 0) := (blk_cell BK268.out 0).trans rfl; have hfz47_0 := blk_frozen BK268.out 0))
           have n0_ : Aside0 (Kd.R (Kd.int .i64) 3 (w44.setCell ⟨gb268, 0, none⟩ (.slice Ao45 t265.length co45)) w.heap.size (fun _ => True) u10 x10_2) := ⟨by (with_reducible repeat (first | apply Kd.R_alloc | apply Kd.R_drewN | apply Kd.R_drew)); exact Kd.R_mono (Kd.R_far (p := ⟨gb268, 0, none⟩) (Kd.R_types HO_10.out BK268.out (by decide)) (fun _ hk => hk.2) (.slice Ao45 t265.length co45)) (fun _ hk => trivial)⟩
           have n1_ : Aside0 (Kd.S (Kd.slice 3 (Kd.int .i64)) 28 (w44.setCell ⟨gb268, 0, none⟩ (.slice Ao45 t265.length co45)) w.heap.size (fun k_ => some k_ ≠ (u10 : Value).ownBlock) (.slice Ao45 t265.length co45) t265) := ⟨by (with_reducible repeat (first | apply Kd.S_alloc | apply Kd.S_drewN | apply Kd.S_drew)); exact Kd.S_mono (Kd.S_far (p := ⟨gb268, 0, none⟩) (Kd.S_types HO267.out BK268.out (by decide)) (fun _ hk => hk.2) (.slice Ao45 t265.length co45)) (fun _ hk => hk.1.2)⟩
           have n2_ : Aside0 ((w44.setCell ⟨gb268, 0, none⟩ (.slice Ao45 t265.length co45)).heap[gb256]? = some (.cells #[.slice (some ad264) l0_0.length c0_0] 31 (0, 0))) := ⟨by (with_reducible repeat (first | refine blk_drewN ?_ _ | refine blk_drew ?_ | refine blk_alloc ?_ _)); refine blk_far ?_ NB256_268.out _; (with_reducible repeat (first | refine blk_drewN ?_ _ | refine blk_drew ?_ | refine blk_alloc ?_ _)); exact BK256.out⟩
           have n3_ : Aside0 ((w44.setCell ⟨gb268, 0, none⟩ (.slice Ao45 t265.length co45)).heap[gb268]? = some (.cells #[.slice Ao45 t265.length co45] 31 (0, 0))) := ⟨by (with_reducible repeat (first | refine blk_drewN ?_ _ | refine blk_drew ?_ | refine blk_alloc ?_ _)); refine blk_put (cs := #[.slice none 0 0]) ?_ 0 _ rfl; (with_reducible repeat (first | refine blk_drewN ?_ _ | refine blk_drew ?_ | refine blk_alloc ?_ _)); exact BK268.out⟩
           have n4_ : Aside0 (Below w.heap.size w (w44.setCell ⟨gb268, 0, none⟩ (.slice Ao45 t265.length co45))) := ⟨bel2 HB GE256 GE268⟩
           (try clear HO_10)
           (try clear HO267)
           (try clear BK256)
           (try clear BK268)
           (try clear HB)
           generalize (w44.setCell ⟨gb268, 0, none⟩ (.slice Ao45 t265.length co45)) = w48 at n0_ n1_ n2_ n3_ n4_ ⊢
           have HO_10 := n0_
           have HO267 := n1_
           have BK256 := n2_
           have BK268 := n3_
           have HB := n4_
           clear n0_ n1_ n2_ n3_ n4_
           have n0_ := Aside0.mk (Kd.R_drew HO_10.out)
           have n1_ := Aside0.mk (Kd.S_drew HO267.out)
           have n2_ := Aside0.mk (blk_drew BK256.out)
           have n3_ := Aside0.mk (blk_drew BK268.out)
           have n4_ := Aside0.mk (below_drew1 HB.out)
           clear HO_10
           clear HO267
           clear BK256
           clear BK268
           clear HB
           have HO_10 := n0_
           have HO267 := n1_
           have BK256 := n2_
           have BK268 := n3_
           have HB := n4_
           clear n0_ n1_ n2_ n3_ n4_
           have p269 : 0 ≤ (x13_2 : Int) := oda
           have q269 : x13_2 < (l0_0.length : Int) := oda
           obtain ⟨ad269, A269_0, c269_0, e269, hx269_0, hl269_0, hi269_0⟩ := at_L1 HR0_0.out x13_2 p269 q269
           have hw269_0 := hx269_0
           obtain rfl : ad264 = ad269 := (by injection e269)
           replace hx269_0 := cel HB hx269_0
           have HR269_0 := Aside0.mk hi269_0
           have HC269_0 := Aside0.mk hl269_0
           clear hi269_0 hl269_0
           replace p269 := eq_true p269
           replace q269 := eq_true q269
           refine start_ (n := 13) (S := fun w' => w'.cell? ⟨gb268, 0, none⟩ = some (.slice Ao45 t265.length co45) ∧ w'.cell? ⟨gb256, 0, none⟩ = some (.slice (some ad264) l0_0.length c0_0) ∧ w'.cell? (ad264.add (x13_2).toNat) = some (.slice A269_0 (rd_L1 l0_0 x13_2).length c269_0)) (ds := []) #[false, false, false, false, false, false, false, false, false, false, false, false, false] (by kernel_rfl) rfl rfl ⟨(blk_cell BK268.out 0).trans rfl, (blk_cell BK256.out 0).trans rfl, (cel HB hw269_0 :)⟩ (fun hHeld => ?_); refine with_tabW spec_AllowedStacks.tab12 spec_AllowedStacks.bits12 (fun HT_ HW_ => ?_)
           generalize w48.drew = w49 at HO_10 HO267 BK256 BK268 HB HR269_0 hx269_0 hHeld ⊢
           refine pure_ (i := 1) (N := some 57) (v := ?_) (a' := ?_) #[false, true, false, false, false, false, false, false, false, false, false, false, false] rfl rfl (any_of HT_.out (by kernel_rfl)) (fun _ _ _ h => h) (Or.inl ⟨by rfl, ?_⟩) ?_ ?_
           rotate_left
           ·intro w'
            go_simp
            with_reducible rfl
           rotate_left
           ·simp only [Act.put, List.setIfInBounds_toArray, List.set_cons_zero, List.set_cons_succ, i64_w, i32_w]
            rfl
           refine pure_ (i := 2) (N := some 58) (v := ?_) (a' := ?_) #[false, true, true, false, false, false, false, false, false, false, false, false, false] rfl rfl (any_of HT_.out (by kernel_rfl)) (fun _ _ _ h => h) (Or.inl ⟨by rfl, ?_⟩) ?_ ?_
           rotate_left
           ·intro w'
            go_simp
            with_reducible rfl
           rotate_left
           ·simp only [Act.put, List.setIfInBounds_toArray, List.set_cons_zero, List.set_cons_succ, i64_w, i32_w]
            rfl
           refine pure_ (i := 3) (N := some 59) (v := ?_) (a' := ?_) #[false, true, true, true, false, false, false, false, false, false, false, false, false] rfl rfl (any_of HT_.out (by kernel_rfl)) (fun _ _ _ h => h) (Or.inl ⟨by rfl, ?_⟩) ?_ ?_
           rotate_left
           ·intro w'
            go_simp
            with_reducible rfl
           rotate_left
           ·simp only [Act.put, List.setIfInBounds_toArray, List.set_cons_zero, List.set_cons_succ, i64_w, i32_w]
            rfl
           refine pure_ (i := 4) (N := some 60) (v := ?_) (a' := ?_) #[false, true, true, true, true, false, false, false, false, false, false, false, false] rfl rfl (any_of HT_.out (by kernel_rfl)) (fun _ _ _ h => h) (Or.inl ⟨by rfl, ?_⟩) ?_ ?_
           rotate_left
           ·intro w'
            go_simp
            with_reducible rfl
           rotate_left
           ·simp only [Act.put, List.setIfInBounds_toArray, List.set_cons_zero, List.set_cons_succ, i64_w, i32_w]
            rfl
           refine pure_ (i := 6) (N := some 62) (v := ?_) (a' := ?_) #[false, true, true, true, true, false, true, false, false, false, false, false, false] rfl rfl (any_of HT_.out (by kernel_rfl)) (fun _ _ _ h => h) (Or.inl ⟨by rfl, ?_⟩) ?_ ?_
           rotate_left
           ·intro w'
            go_simp
            with_reducible rfl
           rotate_left
           ·simp only [Act.put, List.setIfInBounds_toArray, List.set_cons_zero, List.set_cons_succ, i64_w, i32_w]
            rfl
           refine take_ (i := 0) (N := some 56) (v := ?_) (a' := ?_) #[true, true, true, true, true, false, true, false, false, false, false, false, false] rfl rfl (take_ofW HT_.out HW_.out (by kernel_rfl)) (fun _ _ _ h => h) (Or.inl ⟨by rfl, ?_⟩) hHeld ?_ ?_
           rotate_left
           ·rintro w' ⟨s0, s1, s2⟩
            go_simp
            with_reducible rfl
           rotate_left
           ·simp only [Act.put, List.setIfInBounds_toArray, List.set_cons_zero, List.set_cons_succ, i64_w, i32_w]
            rfl
           refine take_ (i := 5) (N := some 61) (v := ?_) (a' := ?_) #[true, true, true, true, true, true, true, false, false, false, false, false, false] rfl rfl (take_ofW HT_.out HW_.out (by kernel_rfl)) (fun _ _ _ h => h) (Or.inl ⟨by rfl, ?_⟩) hHeld ?_ ?_
           rotate_left
           ·rintro w' ⟨s0, s1, s2⟩
            go_simp
            with_reducible rfl
           rotate_left
           ·simp only [Act.put, List.setIfInBounds_toArray, List.set_cons_zero, List.set_cons_succ, i64_w, i32_w]
            rfl
           refine pure_ (i := 7) (N := some 63) (v := ?_) (a' := ?_) #[true, true, true, true, true, true, true, true, false, false, false, false, false] rfl rfl (any_of HT_.out (by kernel_rfl)) (fun _ _ _ h => h) (Or.inl ⟨by rfl, ?_⟩) ?_ ?_
           rotate_left
           ·intro w'
            go_simp
            with_reducible rfl
           rotate_left
           ·simp only [Act.put, List.setIfInBounds_toArray, List.set_cons_zero, List.set_cons_succ, i64_w, i32_w]
            rfl
           refine take_ (i := 8) (N := some 64) (v := ?_) (a' := ?_) #[true, true, true, true, true, true, true, true, true, false, false, false, false] rfl rfl (take_ofW HT_.out HW_.out (by kernel_rfl)) (fun _ _ _ h => h) (Or.inl ⟨by rfl, ?_⟩) hHeld ?_ ?_
           rotate_left
           ·rintro w' ⟨s0, s1, s2⟩
            go_simp
            with_reducible rfl
           rotate_left
           ·simp only [Act.put, List.setIfInBounds_toArray, List.set_cons_zero, List.set_cons_succ, i64_w, i32_w]
            rfl
           refine pure_ (i := 9) (N := some 65) (v := ?_) (a' := ?_) #[true, true, true, true, true, true, true, true, true, true, false, false, false] rfl rfl (any_of HT_.out (by kernel_rfl)) (fun _ _ _ h => h) (Or.inl ⟨by rfl, ?_⟩) ?_ ?_
           rotate_left
           ·intro w'
            go_simp
            with_reducible rfl
           rotate_left
           ·simp only [Act.put, List.setIfInBounds_toArray, List.set_cons_zero, List.set_cons_succ, i64_w, i32_w]
            rfl
           refine one_ (i := 10) (N := some 66) #[true, true, true, true, true, true, true, true, true, true, true, false, false] rfl rfl (one_of HT_.out (by kernel_rfl)) (by decide) (fun K hK => ?_)
           refine goes_ Try.func46 (by kernel_rfl) rfl #[.agg #[.slice Ao45 t265.length co45], .slice A1 l1.length c1, .int .i64 a2, .int .i64 x13_2, .int .i64 ((rd_L1 l0_0 x13_2).length : Int)] (by rfl) rfl rfl gmp ?_
           with_reducible refine (spec_l7At.calls k2 _ _ t265 _ _ l1 a2 x13_2 ((rd_L1 l0_0 x13_2).length : Int) t270 _ ?side1 ?side2 ?side3 ?side4 A28.out).mono ?_
           (case side1 => repeat (first | exact (Kd.S_reads' HO267.out).2.2 | (with_reducible refine Kd.C_alloc ?_ _) | (with_reducible refine Kd.C_drewN ?_ _) | (with_reducible refine Kd.C_drew ?_)))
           (case side2 => exact (Kd.S_reads' HO267.out).2.1)
           (case side3 => exact cdl (Kd.C_below HR1.out HB.out))
           (case side4 => exact HC1.out)
           rintro e w50 ⟨v271, rfl, ho0, hb⟩
           refine ⟨_, rfl, ?_⟩
           have n0_ := Aside0.mk (Kd.R_below (rdl HO_10) hb)
           have n1_ := Aside0.mk (Kd.S_below (sdl HO267) hb)
           have n2_ := Aside0.mk (Kd.R_lower ho0 (below_size (bel2 HB GE256 GE268)))
           have n3_ := Aside0.mk (blk_below (g := gb256) (o := .cells #[.slice (some ad264) l0_0.length c0_0] 31 (0, 0)) (bkl BK256) hb)
           have n4_ := Aside0.mk (blk_below (g := gb268) (o := .cells #[.slice Ao45 t265.length co45] 31 (0, 0)) (bkl BK268) hb)
           have n5_ := Aside0.mk (below_step (bel2 HB GE256 GE268) hb)
           clear HO_10
           clear HO267
           clear BK256
           clear BK268
           clear HB
           have HO_10 := n0_
           have HO267 := n1_
           have HO272 := n2_
           have BK256 := n3_
           have BK268 := n4_
           have HB := n5_
           clear n0_ n1_ n2_ n3_ n4_ n5_
           (try clear hb)
           (try clear hb2)
           (try clear hk)
           (try clear hi)
           (try clear ho0)
           obtain ⟨Ao51, co51, eo51⟩ := Kd.R_slice HO272.out
           (first | subst eo51 | (injection eo51 with f1_ f2_ f3_; have f4_ := f1_.symm; have f5_ := f3_.symm; clear f1_ f2_ f3_; subst f4_; subst f5_))
           refine hK.out _ _ ⟨(blk_cell BK268.out 0).trans rfl, (blk_cell BK256.out 0).trans rfl, (cel HB hw269_0 :)⟩ (fun hHeld => ?_)
           clear hK K
           refine norm_ (a' := ?_) ?_ ?_
           rotate_left
           ·show Act.put _ (some 66) _ = _
            simp only [Act.put, List.setIfInBounds_toArray, List.set_cons_zero, List.set_cons_succ, i64_w, i32_w]
            rfl
           refine pure_ (i := 11) (N := some 67) (v := ?_) (a' := ?_) #[true, true, true, true, true, true, true, true, true, true, true, true, false] rfl rfl (any_of HT_.out (by kernel_rfl)) (fun _ _ _ h => h) (Or.inl ⟨by rfl, ?_⟩) ?_ ?_
           rotate_left
           ·intro w'
            go_simp
            with_reducible rfl
           rotate_left
           ·simp only [Act.put, List.setIfInBounds_toArray, List.set_cons_zero, List.set_cons_succ, i64_w, i32_w]
            rfl
           refine pure_ (i := 12) (N := some 68) (v := ?_) (a' := ?_) #[true, true, true, true, true, true, true, true, true, true, true, true, true] rfl rfl (any_of HT_.out (by kernel_rfl)) (fun _ _ _ h => h) (Or.inl ⟨by rfl, ?_⟩) ?_ ?_
           rotate_left
           ·intro w'
            go_simp
            with_reducible rfl
           rotate_left
           ·simp only [Act.put, List.setIfInBounds_toArray, List.set_cons_zero, List.set_cons_succ, i64_w, i32_w]
            rfl
           refine done_ (done_of HT_.out (by kernel_rfl)) ?_
           try go_wp2
           go_roundg k2
           case measure => have := HJ4.out; have := HK2.out; omega
           case rel => exact ⟨(x10_2), (wrap64 (x13_2 + 1)), (by first | rfl | (simp; done) | (simp [*]; done)), H', ⟨by have := HJ4.out; have := HK2.out; omega⟩, ⟨rdl HO_10⟩, ⟨bkl BK256⟩, ⟨bel2 HB GE256 GE268⟩⟩
        ·rw [if_neg c24] at H
         exact absurd H (by simp)
       ·rw [if_neg c23] at H
        have c23b0 : decide (x13_2 < (l0_0.length : Int)) = false := decide_eq_false c23
        clear c23
        simp only [Option.some.injEq, Prod.mk.injEq] at H
        obtain ⟨rfl, rfl⟩ := H
        have hcz52_0 : wr.cell? ⟨gb256, 0, none⟩ = some (.slice A0_0 l0_0.length c0_0) := (blk_cell BK256.out 0).trans rfl
        have hfz52_0 := blk_frozen BK256.out 0
        go_wp2
        go_ret2
        exact ⟨_, by first | rfl | (simp [errW_none, errW_some] <;> rfl) | (simp [*, errW_none, errW_some] <;> rfl), rdl HO_10, bel1 HB GE256⟩

/-! ### impl_within: function 48 -/
def impl_within.f (a0 : Int) (a1 : Int) (a2 : Int) : Option (Bool) := if a0 ≥ a1 then (some (decide (a0 ≤ a2))) else (some false)
set_option maxHeartbeats 8000000 in
set_option maxRecDepth 100000 in
theorem impl_within.calls (a0 : Int) (a1 : Int) (a2 : Int) (r : Bool) (w : World) (h : impl_within.f a0 a1 a2 = some r) :
  Calls Try.prog 48 #[.int .i64 a0, .int .i64 a1, .int .i64 a2] w fun e w' => e = .returned (.bool r) ∧ Drawn0 w w' := by
 have H : (if a0 ≥ a1 then (some (decide (a0 ≤ a2))) else (some false)) = some r := h
 clear h
 by_cases c4 : a0 ≥ a1
 ·rw [if_pos c4] at H
  have c4b0 : decide (a1 ≤ a0) = true := decide_eq_true c4
  clear c4
  obtain rfl := Option.some.inj H
  go_enter Try.func48, Try.ntmps48
  go_wp2
  go_ret
  exact ⟨by first | rfl | (simp; done) | (simp [*]; done), by repeat (first | exact Drawn0.refl _ | apply Drawn0.step)⟩
 ·rw [if_neg c4] at H
  have c4b0 : decide (a1 ≤ a0) = false := decide_eq_false c4
  clear c4
  obtain rfl := Option.some.inj H
  go_enter Try.func48, Try.ntmps48
  go_wp2
  go_ret
  exact ⟨by first | rfl | (simp; done) | (simp [*]; done), by repeat (first | exact Drawn0.refl _ | apply Drawn0.step)⟩

end Go.Proofs.Ytgeakpogmjbjkaa.P
