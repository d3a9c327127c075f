-- Written by a program of this session over the translation (a variant of the printer, see wip/gen); Lean checks it.
import Derived.Test.YtchjkaondonldaaPx0
import Derived.Test.YtchjkaondonldaaPx11
import Derived.Test.YtchjkaondonldaaPx12
namespace Go.Proofs.Ytchjkaondonldaa.P
open Go.RowKit Go.Proofs.YtchjkaondonldaaW.PrintWords Go.Proofs.YtchjkaondonldaaW.PrintLast Go.Proofs.YtchjkaondonldaaW.PrintMore
attribute [local go_sem] Go.Proofs.Ytchjkaondonldaa.V.isSome_setCell max2_int min2_int max_two min_two max_three min_three max_four min_four   -- for this text's walks alone
set_option linter.unusedVariables false
set_option linter.unusedSimpArgs false

/-! ### spec_l8Asked: function 66 -/
def spec_l8Asked.f (k : Nat) (l0_0 : List (List Int)) (l1 : List Int) : Option (Bool) := (spec_l5Good.f k l0_0).bind fun t219 => (if t219 = true then ((spec_l8Arrivals.f k l0_0 l1).bind fun t220 => (some t220)) else (some false))
theorem spec_l8Asked.mono : ∀ a0 a1 k, LeO (spec_l8Asked.f k a0 a1) (spec_l8Asked.f (k + 1) a0 a1) := by
 intro a0 a1 k
 unfold spec_l8Asked.f
 repeat' first
   | (with_reducible exact spec_l5Good.mono _ _)
   | (with_reducible exact spec_l8Arrivals.mono _ _ _)
   | (with_reducible exact LeO.refl _)
   | (with_reducible exact LeO.none _)
   | (with_reducible refine LeO.ite ?_ ?_)
   | (with_reducible refine LeO.bind ?_ (fun _ => ?_))
   | exact spec_l5Good.mono _ _
   | exact spec_l8Arrivals.mono _ _ _
   | exact LeO.none _
   | refine LeO.ite ?_ ?_
   | refine LeO.bind ?_ (fun _ => ?_)
set_option maxHeartbeats 8000000 in
set_option maxRecDepth 100000 in
theorem spec_l8Asked.calls (k : Nat) (A0_0 : Option Addr) (c0_0 : Nat) (l0_0 : List (List Int)) (A1 : Option Addr) (c1 : Nat) (l1 : List Int) (r : Bool) (w : World) (hr0_0 : Kd.C (Kd.slice 3 (Kd.int .i64)) w A0_0 l0_0.length l0_0) (hc0_0 : l0_0.length ≤ c0_0) (hr1 : Kd.C (Kd.int .i64) w A1 l1.length l1) (hc1 : l1.length ≤ c1) (h : spec_l8Asked.f k l0_0 l1 = some r) :
  Calls Try.prog 66 #[.agg #[.slice A0_0 l0_0.length c0_0], .slice A1 l1.length c1] w fun e w' => e = .returned (.bool r) ∧ Below w.heap.size w w' := by
 have hu28 := Try.underlying28
 have HR0_0 := Aside0.mk hr0_0
 have HC0_0 := Aside0.mk hc0_0
 clear hr0_0 hc0_0
 have HR1 := Aside0.mk hr1
 have HC1 := Aside0.mk hc1
 clear hr1 hc1
 have HB := Aside0.mk (Below.refl w.heap.size w)
 have H : ((spec_l5Good.f k l0_0).bind fun t219 => (if t219 = true then ((spec_l8Arrivals.f k l0_0 l1).bind fun t220 => (some t220)) else (some false))) = some r := h
 clear h
 replace H := Option.bind_eq_some_iff.mp H
 obtain ⟨t219, A30, H⟩ := H
 replace H : (if t219 = true then ((spec_l8Arrivals.f k l0_0 l1).bind fun t220 => (some t220)) else (some false)) = some r := H
 have A3 := Aside0.mk A30
 clear A30
 by_cases c4 : t219 = true
 ·subst c4
  have H1 : ((spec_l8Arrivals.f k l0_0 l1).bind fun t220 => (some t220)) = some r := by rw [if_pos rfl] at H; exact H
  clear H
  have H := H1
  clear H1
  replace H := Option.bind_eq_some_iff.mp H
  obtain ⟨t220, A50, H⟩ := H
  replace H : (some t220) = some r := H
  have A5 := Aside0.mk A50
  clear A50
  obtain rfl := Option.some.inj H
  go_enter Try.func66, Try.ntmps66
  go_wp2_with (first | ((with_reducible refine gate_dst (N := 2) rfl ?_); refine box_event ?hg (N := 2) ?hd (cs := #[.slice A0_0 l0_0.length c0_0]) (t := 28) ?hr ?_; (case hd => rfl); (case hg => rfl); (case hr => first | (go_simp; done) | (go_simp; rfl)); intro gb218 hg w6 hbox hb; have n0_ := Aside0.mk (below_step (bel HB) hb); have n1_ := Aside0.mk (hbox); have n2_ := Aside0.mk ((by rw [hg]; exact (below_size (bel HB)) : w.heap.size ≤ gb218)); have n3_ := Aside0.mk ((by rw [hg]; exact (below_size (bel HB)) : w.heap.size ≤ gb218)); clear HB; have HB := n0_; have BK218 := n1_; have GW218 := n2_; have GE218 := n3_; clear n0_ n1_ n2_ n3_; clear hb hbox hg; have hcz7_0 : w6.cell? ⟨gb218, 0, none⟩ = some (.slice A0_0 l0_0.length c0_0) := (blk_cell BK218.out 0).trans rfl; have hfz7_0 := blk_frozen BK218.out 0) | ((with_reducible refine gate_callee (f := 47) rfl ?_); refine goesL_ (some 6) rfl rfl Try.func47 (by kernel_rfl) rfl #[.agg #[.slice A0_0 l0_0.length c0_0]] rfl gmp ?_; (with_reducible refine (spec_l5Good.calls k _ _ l0_0 true _ ?side1 ?side2 A3.out).mono ?_); (case side1 => exact cdl (Kd.C_below HR0_0.out HB.out)); (case side2 => exact HC0_0.out); rintro e w8 ⟨rfl, hb⟩; refine ⟨_, rfl, ?_⟩; have n0_ := Aside0.mk (blk_below (g := gb218) (o := .cells #[.slice A0_0 l0_0.length c0_0] 28 (0, 0)) (bkl BK218) hb); have n1_ := Aside0.mk (below_step (bel1 HB GE218) hb); clear BK218; clear HB; have BK218 := n0_; have HB := n1_; clear n0_ n1_; (try clear hb); (try clear hb2); (try clear hk); (try clear hi); have hcz9_0 : w8.cell? ⟨gb218, 0, none⟩ = some (.slice A0_0 l0_0.length c0_0) := (blk_cell BK218.out 0).trans rfl; have hfz9_0 := blk_frozen BK218.out 0) | (go_at_call 93; (with_reducible refine (spec_l8Arrivals.calls k _ _ l0_0 _ _ l1 t220 _ ?side1 ?side2 ?side3 ?side4 A5.out).mono ?_); (case side1 => exact cdl (Kd.C_below HR0_0.out HB.out)); (case side2 => exact HC0_0.out); (case side3 => exact cdl (Kd.C_below HR1.out HB.out)); (case side4 => exact HC1.out); rintro e w10 ⟨rfl, hb⟩; have n0_ := Aside0.mk (blk_below (g := gb218) (o := .cells #[.slice A0_0 l0_0.length c0_0] 28 (0, 0)) (bkl BK218) hb); have n1_ := Aside0.mk (below_step (bel1 HB GE218) hb); clear BK218; clear HB; have BK218 := n0_; have HB := n1_; clear n0_ n1_; (try clear hb); (try clear hb2); (try clear hk); (try clear hi)))
  go_ret
  exact ⟨by first | rfl | (simp [errW_none, errW_some] <;> rfl) | (simp [*, errW_none, errW_some] <;> rfl), bel1 HB GE218⟩
 ·replace c4 := Bool.eq_false_iff.mpr c4
  subst c4
  have H1 : (some false) = some r := by rw [if_neg (show ¬ (false = true) by decide)] at H; exact H
  clear H
  have H := H1
  clear H1
  obtain rfl := Option.some.inj H
  go_enter Try.func66, Try.ntmps66
  go_wp2_with (first | ((with_reducible refine gate_dst (N := 2) rfl ?_); refine box_event ?hg (N := 2) ?hd (cs := #[.slice A0_0 l0_0.length c0_0]) (t := 28) ?hr ?_; (case hd => rfl); (case hg => rfl); (case hr => first | (go_simp; done) | (go_simp; rfl)); intro gb218 hg w11 hbox hb; have n0_ := Aside0.mk (below_step (bel HB) hb); have n1_ := Aside0.mk (hbox); have n2_ := Aside0.mk ((by rw [hg]; exact (below_size (bel HB)) : w.heap.size ≤ gb218)); have n3_ := Aside0.mk ((by rw [hg]; exact (below_size (bel HB)) : w.heap.size ≤ gb218)); clear HB; have HB := n0_; have BK218 := n1_; have GW218 := n2_; have GE218 := n3_; clear n0_ n1_ n2_ n3_; clear hb hbox hg; have hcz12_0 : w11.cell? ⟨gb218, 0, none⟩ = some (.slice A0_0 l0_0.length c0_0) := (blk_cell BK218.out 0).trans rfl; have hfz12_0 := blk_frozen BK218.out 0) | ((with_reducible refine gate_callee (f := 47) rfl ?_); refine goesL_ (some 6) rfl rfl Try.func47 (by kernel_rfl) rfl #[.agg #[.slice A0_0 l0_0.length c0_0]] rfl gmp ?_; (with_reducible refine (spec_l5Good.calls k _ _ l0_0 false _ ?side1 ?side2 A3.out).mono ?_); (case side1 => exact cdl (Kd.C_below HR0_0.out HB.out)); (case side2 => exact HC0_0.out); rintro e w13 ⟨rfl, hb⟩; refine ⟨_, rfl, ?_⟩; have n0_ := Aside0.mk (blk_below (g := gb218) (o := .cells #[.slice A0_0 l0_0.length c0_0] 28 (0, 0)) (bkl BK218) hb); have n1_ := Aside0.mk (below_step (bel1 HB GE218) hb); clear BK218; clear HB; have BK218 := n0_; have HB := n1_; clear n0_ n1_; (try clear hb); (try clear hb2); (try clear hk); (try clear hi)))
  go_ret
  exact ⟨by first | rfl | (simp [errW_none, errW_some] <;> rfl) | (simp [*, errW_none, errW_some] <;> rfl), bel1 HB GE218⟩

/-! ### spec_l1Own: function 94 -/
def spec_l1Own.f (l0 : List Int) : Option (List Int) := (some (([] : List Int) : List Int)).bind fun y221 => (if y221.length + l0.length < 17592186044416 then (some (y221 ++ l0)) else (none))
set_option maxHeartbeats 8000000 in
set_option maxRecDepth 100000 in
theorem spec_l1Own.calls (A0 : Option Addr) (c0 : Nat) (l0 : List Int) (r : List Int) (w : World) (hr0 : Kd.C (Kd.int .i64) w A0 l0.length l0) (hc0 : l0.length ≤ c0) (h : spec_l1Own.f l0 = some r) :
  Calls Try.prog 94 #[.slice A0 l0.length c0] w fun e w' => ∃ v0_ : Value, e = .returned (v0_) ∧ Kd.R (Kd.int .i64) 3 w' w.heap.size (fun _ => True) v0_ r ∧ Below w.heap.size w w' := by
 have HR0 := Aside0.mk hr0
 have HC0 := Aside0.mk hc0
 clear hr0 hc0
 have HB := Aside0.mk (Below.refl w.heap.size w)
 have H : ((some (([] : List Int) : List Int)).bind fun y221 => (if y221.length + l0.length < 17592186044416 then (some (y221 ++ l0)) else (none))) = some r := h
 clear h
 obtain ⟨y221, hy221⟩ : ∃ y_ : List Int, y_ = (([] : List Int)) := ⟨_, rfl⟩
 replace H : (if y221.length + l0.length < 17592186044416 then (some (y221 ++ l0)) else (none)) = some r := by first | (rw [hy221]; with_reducible exact H) | (have H2_ := (Option.bind_some _ _).symm.trans H; rw [hy221]; with_reducible exact H2_) | (have H2_ := (Option.bind_some _ _).symm.trans H; with_reducible exact H2_) | with_reducible exact H | (rw [hy221]; exact H) | exact H
 have Ny221 := Aside0.mk hy221
 clear hy221
 by_cases c2 : y221.length + l0.length < 17592186044416
 ·rw [if_pos c2] at H
  have LMc2 := Aside0.mk c2
  clear c2
  obtain ⟨y224, hy224⟩ : ∃ y_ : List Int, y_ = (y221 ++ l0) := ⟨_, rfl⟩
  replace H : (some y224) = some r := by first | (rw [hy224]; with_reducible exact H) | (have H2_ := (Option.bind_some _ _).symm.trans H; rw [hy224]; with_reducible exact H2_) | (have H2_ := (Option.bind_some _ _).symm.trans H; with_reducible exact H2_) | with_reducible exact H | (rw [hy224]; exact H) | exact H
  have Ny224 := Aside0.mk hy224
  clear hy224
  obtain rfl := Option.some.inj H
  go_enter Try.func94, Try.ntmps94
  go_wp2_with (first | ((with_reducible refine gate_dst (N := 3) rfl ?_); refine Kd.R_lit (Kd.int .i64) _ 3 ?hg (N := 3) ?hd (xs := ([] : List Int)) (inner := []) (ok := fun _ => True) (okp := fun _ => True) ?hr ?hp (fun _ hk => hk) trivial (Below.refl _ _) (Nat.le_refl _) (by simp) ?_; (case hd => rfl); (case hg => rfl); (case hr => first | (go_simp; done) | (go_simp; rfl)); (case hp => exact (Reps.none _ _)); intro v222 w3 ho4 hb hg_ hnew_; clear hg_ hnew_; (first | rw [← Ny221.out] at ho4 | (simp only [Int.reduceToNat] at ho4; rw [← Ny221.out] at ho4)); have n0_ := Aside0.mk (Kd.R_lower ho4 (below_size (bel HB))); have n1_ := Aside0.mk (below_step (bel HB) hb); clear HB; have HO223 := n0_; have HB := n1_; clear n0_ n1_; clear hb ho4) | ((with_reducible refine gate_builtin (b := .append) (xs := #[.tmp 3, .tmp 4]) rfl ?_); at_builtin; refine Kd.R_append_rows (Kd.int .i64) (w0 := w) w.heap.size rfl (.tmp 3) (.tmp 4) 35 3 (.int .i64 0) 8 rfl Try.underlying35 info3 rfl (by decide) (by omega) v222 y221 l0 _ _ _ (fun _ => True) (fun _ => False) rfl rfl ?aO ?aR (fun _ _ h => h) (fun _ h => h.elim) ?aF ?aB ?aS ?aL ?_; (case aR => exact cdl (Kd.C_below HR0.out HB.out)); (case aB => exact (bel HB)); (case aF => exact (fun _ _ => trivial)); (case aO => exact (rdl HO223)); (case aS => exact (below_size (bel HB))); (case aL => have := LMc2.out; omega); intro v225 w5 ho hb hg hat; rw [← Ny224.out] at ho; have n0_ := Aside0.mk (hb); have n1_ := Aside0.mk (ho); clear HB; clear HO223; have HB := n0_; have HO226 := n1_; clear n0_ n1_; clear ho hb hg hat))
  go_ret
  exact ⟨_, by first | rfl | (simp [errW_none, errW_some] <;> rfl) | (simp [*, errW_none, errW_some] <;> rfl), rdl HO226, bel HB⟩
 ·rw [if_neg c2] at H
  exact absurd H (by simp)

/-! ### spec_l5Own: function 70 -/
def spec_l5Own.l0 : Nat → Int → List (List Int) → List (List Int) → Option ((List (List Int)))
 | 0, _, _, _ => none
 | k + 1, x4, x228000, x230000 => if x4 < (x228000.length : Int) then (if 0 ≤ x4 then ((spec_l1Own.f (rd_L1 x228000 x4)).bind fun t231 => (if x230000.length < 5864062014805 then (spec_l5Own.l0 k (wrap64 (x4 + 1)) x228000 (x230000 ++ [t231])) else (none))) else (none)) else (some x230000)
def spec_l5Own.f (k : Nat) (l0_0 : List (List Int)) : Option ((List (List Int))) := spec_l5Own.l0 k 0 l0_0 ([] : List (List Int))
theorem spec_l5Own.mono_l : ∀ k, (∀ y0 y1 y2, LeO (spec_l5Own.l0 k y0 y1 y2) (spec_l5Own.l0 (k + 1) y0 y1 y2))
 | 0 => fun _ _ _ r h => by simp [spec_l5Own.l0] at h
 | k + 1 => by
  have ih0 := spec_l5Own.mono_l k
  ·intro y0 y1 y2
   unfold spec_l5Own.l0
   repeat' first
   | (with_reducible exact ih0 _ _ _)
   | (with_reducible exact LeO.refl _)
   | (with_reducible exact LeO.none _)
   | (with_reducible refine LeO.ite ?_ ?_)
   | (with_reducible refine LeO.bind ?_ (fun _ => ?_))
   | exact ih0 _ _ _
   | exact LeO.none _
   | refine LeO.ite ?_ ?_
   | refine LeO.bind ?_ (fun _ => ?_)
theorem spec_l5Own.mono : ∀ a0 k, LeO (spec_l5Own.f k a0) (spec_l5Own.f (k + 1) a0) := by
 intro a0 k
 have ih0 := spec_l5Own.mono_l k
 unfold spec_l5Own.f
 repeat' first
   | (with_reducible exact ih0 _ _ _)
   | (with_reducible exact LeO.refl _)
   | (with_reducible exact LeO.none _)
   | (with_reducible refine LeO.ite ?_ ?_)
   | (with_reducible refine LeO.bind ?_ (fun _ => ?_))
   | exact ih0 _ _ _
   | exact LeO.none _
   | refine LeO.ite ?_ ?_
   | refine LeO.bind ?_ (fun _ => ?_)
def spec_l5Own.T5 : Bool × List (List Nat × List Nat) := (true, [([], []), ([0], [0]), ([], []), ([2], [2]), ([], []), ([3, 4], [3, 4]), ([5], [5]), ([6], [6]), ([7], [7]), ([1, 8, 7], [1, 8]), ([0, 1, 2, 3, 4, 5, 6, 7, 8, 9], []), ([10, 9, 9, 0, 1, 2, 3, 4, 5, 6, 7, 8, 9], [9, 10])])
def spec_l5Own.B5 : List Nat := [0, 1, 0, 4, 0, 28, 60, 124, 252, 511, 1023, 2047]
theorem spec_l5Own.tab5 : rtab .any (opsOf Try.f70 5) = spec_l5Own.T5 := by kernel_rfl
theorem spec_l5Own.bits5 : waitsOk spec_l5Own.T5.2 spec_l5Own.B5 = true := by kernel_rfl
set_option maxHeartbeats 8000000 in
set_option maxRecDepth 100000 in
theorem spec_l5Own.calls (k : Nat) (A0_0 : Option Addr) (c0_0 : Nat) (l0_0 : List (List Int)) (r : List (List Int)) (w : World) (hr0_0 : Kd.C (Kd.slice 3 (Kd.int .i64)) w A0_0 l0_0.length l0_0) (hc0_0 : l0_0.length ≤ c0_0) (h : spec_l5Own.f k l0_0 = some r) :
  Calls Try.prog 70 #[.agg #[.slice A0_0 l0_0.length c0_0]] w fun e w' => ∃ v0_ : Value, e = .returned (.agg #[v0_]) ∧ Kd.S (Kd.slice 3 (Kd.int .i64)) 35 w' w.heap.size (fun _ => True) v0_ r ∧ Below w.heap.size w w' := by
 have hu28 := Try.underlying28
 have HR0_0 := Aside0.mk hr0_0
 have HC0_0 := Aside0.mk hc0_0
 clear hr0_0 hc0_0
 have HB := Aside0.mk (Below.refl w.heap.size w)
 have H : (spec_l5Own.l0 k 0 l0_0 ([] : List (List Int))) = some r := h
 clear h
 have H' := Aside0.mk H
 clear H
 go_enter Try.func70, Try.ntmps70
 go_wp2_with (first | ((with_reducible refine gate_dst (N := 1) rfl ?_); refine box_event ?hg (N := 1) ?hd (cs := #[.slice A0_0 l0_0.length c0_0]) (t := 28) ?hr ?_; (case hd => rfl); (case hg => rfl); (case hr => first | (go_simp; done) | (go_simp; rfl)); intro gb227 hg w2 hbox hb; have n0_ := Aside0.mk (below_step (bel HB) hb); have n1_ := Aside0.mk (hbox); have n2_ := Aside0.mk ((by rw [hg]; exact (below_size (bel HB)) : w.heap.size ≤ gb227)); have n3_ := Aside0.mk ((by rw [hg]; exact (below_size (bel HB)) : w.heap.size ≤ gb227)); clear HB; have HB := n0_; have BK227 := n1_; have GW227 := n2_; have GE227 := n3_; clear n0_ n1_ n2_ n3_; clear hb hbox hg) | ((with_reducible refine gate_dst (N := 2) rfl ?_); refine box_event ?hg (N := 2) ?hd (cs := #[.slice none 0 0]) (t := 28) ?hr ?_; (case hd => rfl); (case hg => rfl); (case hr => first | (go_simp; done) | (go_simp; rfl)); intro gb228 hg w3 hbox hb; have n0_ := Aside0.mk (blk_below (g := gb227) (o := .cells #[.slice A0_0 l0_0.length c0_0] 28 (0, 0)) (bkl BK227) hb); have n1_ := Aside0.mk (below_step (bel1 HB GE227) hb); have n2_ := Aside0.mk (hbox); have n3_ := Aside0.mk ((by rw [hg]; exact (below_size (bel1 HB GE227)) : w.heap.size ≤ gb228)); have n4_ := Aside0.mk ((by rw [hg]; exact (below_size (bel1 HB GE227)) : w.heap.size ≤ gb228)); have n5_ := Aside0.mk ((by rw [hg]; exact Nat.ne_of_lt (blk_lt (g := gb227) (o := .cells #[.slice A0_0 l0_0.length c0_0] 28 (0, 0)) (bkl BK227)) : gb227 ≠ gb228)); have n6_ := Aside0.mk ((by rw [hg]; exact Nat.ne_of_gt (blk_lt (g := gb227) (o := .cells #[.slice A0_0 l0_0.length c0_0] 28 (0, 0)) (bkl BK227)) : gb228 ≠ gb227)); clear BK227; clear HB; have BK227 := n0_; have HB := n1_; have BK228 := n2_; have GW228 := n3_; have GE228 := n4_; have NB227_228 := n5_; have NB228_227 := n6_; clear n0_ n1_ n2_ n3_ n4_ n5_ n6_; clear hb hbox hg) | ((with_reducible refine gate_dst (N := 3) rfl ?_); refine box_event ?hg (N := 3) ?hd (cs := #[.slice none 0 0]) (t := 28) ?hr ?_; (case hd => rfl); (case hg => rfl); (case hr => first | (go_simp; done) | (go_simp; rfl)); intro gb229 hg w4 hbox hb; have n0_ := Aside0.mk (blk_below (g := gb227) (o := .cells #[.slice A0_0 l0_0.length c0_0] 28 (0, 0)) (bkl BK227) hb); have n1_ := Aside0.mk (blk_below (g := gb228) (o := .cells #[.slice none 0 0] 28 (0, 0)) (bkl BK228) hb); have n2_ := Aside0.mk (below_step (bel2 HB GE227 GE228) hb); have n3_ := Aside0.mk (hbox); have n4_ := Aside0.mk ((by rw [hg]; exact (below_size (bel2 HB GE227 GE228)) : w.heap.size ≤ gb229)); have n5_ := Aside0.mk ((by rw [hg]; exact (below_size (bel2 HB GE227 GE228)) : w.heap.size ≤ gb229)); have n6_ := Aside0.mk ((by rw [hg]; exact Nat.ne_of_lt (blk_lt (g := gb227) (o := .cells #[.slice A0_0 l0_0.length c0_0] 28 (0, 0)) (bkl BK227)) : gb227 ≠ gb229)); have n7_ := Aside0.mk ((by rw [hg]; exact Nat.ne_of_gt (blk_lt (g := gb227) (o := .cells #[.slice A0_0 l0_0.length c0_0] 28 (0, 0)) (bkl BK227)) : gb229 ≠ gb227)); have n8_ := Aside0.mk ((by rw [hg]; exact Nat.ne_of_lt (blk_lt (g := gb228) (o := .cells #[.slice none 0 0] 28 (0, 0)) (bkl BK228)) : gb228 ≠ gb229)); have n9_ := Aside0.mk ((by rw [hg]; exact Nat.ne_of_gt (blk_lt (g := gb228) (o := .cells #[.slice none 0 0] 28 (0, 0)) (bkl BK228)) : gb229 ≠ gb228)); clear BK227; clear BK228; clear HB; have BK227 := n0_; have BK228 := n1_; have HB := n2_; have BK229 := n3_; have GW229 := n4_; have GE229 := n5_; have NB227_229 := n6_; have NB229_227 := n7_; have NB228_229 := n8_; have NB229_228 := n9_; clear n0_ n1_ n2_ n3_ n4_ n5_ n6_ n7_ n8_ n9_; clear hb hbox hg; have hnb5 := NB229_227.out; have hnc5 := NB227_229.out; have hnb6 := NB229_228.out; have hnc6 := NB228_229.out; have hcz7_0 : w4.cell? ⟨gb229, 0, none⟩ = some (.slice none 0 0) := (blk_cell BK229.out 0).trans rfl; have hfz7_0 := blk_frozen BK229.out 0))
 go_loopg [4] k (fun kq v4 w' => ∃ (x4_1 : Int) (x230000_1 : List (List Int)) (u230000 : Value), v4 = .int .i64 x4_1 ∧ Aside0 (spec_l5Own.l0 kq x4_1 l0_0 x230000_1 = some r) ∧ Aside0 (kq ≤ k) ∧ Aside0 (Kd.S (Kd.slice 3 (Kd.int .i64)) 35 w' w.heap.size (fun _ => True) u230000 x230000_1) ∧ Aside0 (w'.heap[gb227]? = some (.cells #[(.slice A0_0 l0_0.length c0_0)] 28 (0, 0))) ∧ Aside0 (w'.heap[gb228]? = some (.cells #[(.slice none 0 0)] 28 (0, 0))) ∧ Aside0 (w'.heap[gb229]? = some (.cells #[u230000] 28 (0, 0))) ∧ Aside0 (Below w.heap.size w w'))
 case atStart => exact ⟨(0), (([] : List (List Int))), (.slice none 0 0), (by first | rfl | (simp; done) | (simp [*]; done)), H', ⟨Nat.le_refl _⟩, ⟨by first | exact Kd.S_nil _ _ _ _ _ | exact Kd.N_nil _ _ _ _ _ | exact Kd.V_nil _ _ _ _ _ | exact Kd.Q_nil _ _ _ _ _ | exact Kd.R_nil _ _ _ _ _⟩, ⟨by (with_reducible repeat (first | refine blk_drewN ?_ _ | refine blk_drew ?_ | refine blk_alloc ?_ _)); refine blk_far ?_ NB227_229.out _; (with_reducible repeat (first | refine blk_drewN ?_ _ | refine blk_drew ?_ | refine blk_alloc ?_ _)); exact BK227.out⟩, ⟨by (with_reducible repeat (first | refine blk_drewN ?_ _ | refine blk_drew ?_ | refine blk_alloc ?_ _)); refine blk_far ?_ NB228_229.out _; (with_reducible repeat (first | refine blk_drewN ?_ _ | refine blk_drew ?_ | refine blk_alloc ?_ _)); exact BK228.out⟩, ⟨by (with_reducible repeat (first | refine blk_drewN ?_ _ | refine blk_drew ?_ | refine blk_alloc ?_ _)); refine blk_put (cs := #[.slice none 0 0]) ?_ 0 _ rfl; (with_reducible repeat (first | refine blk_drewN ?_ _ | refine blk_drew ?_ | refine blk_alloc ?_ _)); exact BK229.out⟩, ⟨bel3 HB GE227 GE228 GE229⟩⟩
 case round =>
  clear H'
  try clear p2
  try clear c5
  try clear c6
  try clear c7
  try clear hcz7_0
  try clear hfz7_0
  obtain ⟨x4_1, x230000_1, u230000, rfl, HA, HK1, HO_230000, BK227, BK228, BK229, HB⟩ := hrel
  cases gk with
  | zero => exact absurd HA.out (by simp [spec_l5Own.l0])
  | succ k1 =>
   have H := HA.out
   clear HA
   simp only [spec_l5Own.l0] at H
   by_cases c8 : x4_1 < (l0_0.length : Int)
   ·rw [if_pos c8] at H
    have c8b0 : decide (x4_1 < (l0_0.length : Int)) = true := decide_eq_true c8
    clear c8
    by_cases c9 : 0 ≤ x4_1
    ·rw [if_pos c9] at H
     have c9b0 : decide (0 ≤ x4_1) = true := decide_eq_true c9
     clear c9
     replace H := Option.bind_eq_some_iff.mp H
     obtain ⟨t231, A100, H⟩ := H
     replace H : (if x230000_1.length < 5864062014805 then (spec_l5Own.l0 k1 (wrap64 (x4_1 + 1)) l0_0 (x230000_1 ++ [t231])) else (none)) = some r := H
     have A10 := Aside0.mk A100
     clear A100
     by_cases c11 : x230000_1.length < 5864062014805
     ·rw [if_pos c11] at H
      have LMc11 := Aside0.mk c11
      clear c11
      obtain ⟨y234, hy234⟩ : ∃ y_ : List (List Int), y_ = (x230000_1 ++ [t231]) := ⟨_, rfl⟩
      replace H : (spec_l5Own.l0 k1 (wrap64 (x4_1 + 1)) l0_0 y234) = some r := by first | (rw [hy234]; with_reducible exact H) | (have H2_ := (Option.bind_some _ _).symm.trans H; rw [hy234]; with_reducible exact H2_) | (have H2_ := (Option.bind_some _ _).symm.trans H; with_reducible exact H2_) | with_reducible exact H | (rw [hy234]; exact H) | exact H
      have Ny234 := Aside0.mk hy234
      clear hy234
      have H' := Aside0.mk H
      clear H
      have hnb12 := NB227_228.out
      have hnc12 := NB228_227.out
      have hnb13 := NB227_229.out
      have hnc13 := NB229_227.out
      have hcz14_0 : wr.cell? ⟨gb227, 0, none⟩ = some (.slice A0_0 l0_0.length c0_0) := (blk_cell BK227.out 0).trans rfl
      have hfz14_0 := blk_frozen BK227.out 0
      try go_wp2
      have n0_ := Aside0.mk (Kd.S_drew HO_230000.out)
      have n1_ := Aside0.mk (blk_drew BK227.out)
      have n2_ := Aside0.mk (blk_drew BK228.out)
      have n3_ := Aside0.mk (blk_drew BK229.out)
      have n4_ := Aside0.mk (below_drew1 HB.out)
      clear HO_230000
      clear BK227
      clear BK228
      clear BK229
      clear HB
      have HO_230000 := n0_
      have BK227 := n1_
      have BK228 := n2_
      have BK229 := n3_
      have HB := n4_
      clear n0_ n1_ n2_ n3_ n4_
      have p230 : 0 ≤ (x4_1 : Int) := oda
      have q230 : x4_1 < (l0_0.length : Int) := oda
      obtain ⟨ad230, A230_0, c230_0, e230, hx230_0, hl230_0, hi230_0⟩ := at_L1 HR0_0.out x4_1 p230 q230
      have hw230_0 := hx230_0
      cases e230
      replace hx230_0 := cel HB hx230_0
      have HR230_0 := Aside0.mk hi230_0
      have HC230_0 := Aside0.mk hl230_0
      clear hi230_0 hl230_0
      replace p230 := eq_true p230
      replace q230 := eq_true q230
      refine start_ (n := 12) (S := fun w' => w'.cell? ⟨gb229, 0, none⟩ = some (u230000) ∧ w'.cell? ⟨gb227, 0, none⟩ = some (.slice (some ad230) l0_0.length c0_0) ∧ w'.cell? (ad230.add (x4_1).toNat) = some (.slice A230_0 (rd_L1 l0_0 x4_1).length c230_0)) (ds := [11]) #[false, false, false, false, false, false, false, false, false, false, false, false] (by kernel_rfl) rfl rfl ⟨(blk_cell BK229.out 0).trans rfl, (blk_cell BK227.out 0).trans rfl, (cel HB hw230_0)⟩ (fun hHeld => ?_); refine with_tabW spec_l5Own.tab5 spec_l5Own.bits5 (fun HT_ HW_ => ?_)
      generalize wr.drew = w15 at HO_230000 BK227 BK228 BK229 HB HR230_0 hx230_0 hHeld ⊢
      refine pure_ (i := 0) (N := some 13) (v := ?_) (a' := ?_) #[true, false, false, false, false, false, false, false, false, false, false, false] rfl rfl (any_of HT_.out (by kernel_rfl)) (fun _ _ _ h => h) (Or.inl ⟨by rfl, ?_⟩) ?_ ?_
      rotate_left
      ·intro w'
       go_simp
       with_reducible rfl
      rotate_left
      ·simp only [Act.put, List.setIfInBounds_toArray, List.set_cons_zero, List.set_cons_succ, i64_w, i32_w]
       rfl
      refine pure_ (i := 2) (N := some 15) (v := ?_) (a' := ?_) #[true, false, true, false, false, false, false, false, false, false, false, false] rfl rfl (any_of HT_.out (by kernel_rfl)) (fun _ _ _ h => h) (Or.inl ⟨by rfl, ?_⟩) ?_ ?_
      rotate_left
      ·intro w'
       go_simp
       with_reducible rfl
      rotate_left
      ·simp only [Act.put, List.setIfInBounds_toArray, List.set_cons_zero, List.set_cons_succ, i64_w, i32_w]
       rfl
      refine pure_ (i := 4) (N := some 17) (v := ?_) (a' := ?_) #[true, false, true, false, true, false, false, false, false, false, false, false] rfl rfl (any_of HT_.out (by kernel_rfl)) (fun _ _ _ h => h) (Or.inl ⟨by rfl, ?_⟩) ?_ ?_
      rotate_left
      ·intro w'
       go_simp
       with_reducible rfl
      rotate_left
      ·simp only [Act.put, List.setIfInBounds_toArray, List.set_cons_zero, List.set_cons_succ, i64_w, i32_w]
       rfl
      refine take_ (i := 1) (N := some 14) (v := ?_) (a' := ?_) #[true, true, true, false, true, false, false, false, false, false, false, false] rfl rfl (take_ofW HT_.out HW_.out (by kernel_rfl)) (fun _ _ _ h => h) (Or.inl ⟨by rfl, ?_⟩) hHeld ?_ ?_
      rotate_left
      ·rintro w' ⟨s0, s1, s2⟩
       go_simp
       with_reducible rfl
      rotate_left
      ·simp only [Act.put, List.setIfInBounds_toArray, List.set_cons_zero, List.set_cons_succ, i64_w, i32_w]
       rfl
      refine take_ (i := 3) (N := some 16) (v := ?_) (a' := ?_) #[true, true, true, true, true, false, false, false, false, false, false, false] rfl rfl (take_ofW HT_.out HW_.out (by kernel_rfl)) (fun _ _ _ h => h) (Or.inl ⟨by rfl, ?_⟩) hHeld ?_ ?_
      rotate_left
      ·rintro w' ⟨s0, s1, s2⟩
       go_simp
       with_reducible rfl
      rotate_left
      ·simp only [Act.put, List.setIfInBounds_toArray, List.set_cons_zero, List.set_cons_succ, i64_w, i32_w]
       rfl
      refine pure_ (i := 5) (N := some 18) (v := ?_) (a' := ?_) #[true, true, true, true, true, true, false, false, false, false, false, false] rfl rfl (any_of HT_.out (by kernel_rfl)) (fun _ _ _ h => h) (Or.inl ⟨by rfl, ?_⟩) ?_ ?_
      rotate_left
      ·intro w'
       go_simp
       with_reducible rfl
      rotate_left
      ·simp only [Act.put, List.setIfInBounds_toArray, List.set_cons_zero, List.set_cons_succ, i64_w, i32_w]
       rfl
      refine take_ (i := 6) (N := some 19) (v := ?_) (a' := ?_) #[true, true, true, true, true, true, true, false, false, false, false, false] rfl rfl (take_ofW HT_.out HW_.out (by kernel_rfl)) (fun _ _ _ h => h) (Or.inl ⟨by rfl, ?_⟩) hHeld ?_ ?_
      rotate_left
      ·rintro w' ⟨s0, s1, s2⟩
       go_simp
       with_reducible rfl
      rotate_left
      ·simp only [Act.put, List.setIfInBounds_toArray, List.set_cons_zero, List.set_cons_succ, i64_w, i32_w]
       rfl
      refine one_ (i := 7) (N := some 20) #[true, true, true, true, true, true, true, true, false, false, false, false] rfl rfl (one_of HT_.out (by kernel_rfl)) (by decide) (fun K hK => ?_)
      refine goes_ Try.func94 (by kernel_rfl) rfl #[.slice A230_0 (rd_L1 l0_0 x4_1).length c230_0] (by rfl) rfl rfl gmp ?_
      with_reducible refine (spec_l1Own.calls _ _ (rd_L1 l0_0 x4_1) t231 _ ?side1 ?side2 A10.out).mono ?_
      (case side1 => exact cdl (Kd.C_below HR230_0.out HB.out))
      (case side2 => exact HC230_0.out)
      rintro e w16 ⟨v232, rfl, ho0, hb⟩
      refine ⟨_, rfl, ?_⟩
      have n0_ := Aside0.mk (Kd.S_elder' (sdl HO_230000) (Kd.R_base ho0) hb)
      have n1_ := Aside0.mk (Kd.R_lower ho0 (below_size (bel3 HB GE227 GE228 GE229)))
      have n2_ := Aside0.mk (blk_below (g := gb227) (o := .cells #[.slice (some ad230) l0_0.length c0_0] 28 (0, 0)) (bkl BK227) hb)
      have n3_ := Aside0.mk (blk_below (g := gb228) (o := .cells #[.slice none 0 0] 28 (0, 0)) (bkl BK228) hb)
      have n4_ := Aside0.mk (blk_below (g := gb229) (o := .cells #[u230000] 28 (0, 0)) (bkl BK229) hb)
      have n5_ := Aside0.mk (below_step (bel3 HB GE227 GE228 GE229) hb)
      clear HO_230000
      clear BK227
      clear BK228
      clear BK229
      clear HB
      have HO_230000 := n0_
      have HO233 := n1_
      have BK227 := n2_
      have BK228 := n3_
      have BK229 := n4_
      have HB := n5_
      clear n0_ n1_ n2_ n3_ n4_ n5_
      (try clear hb)
      (try clear hb2)
      (try clear hk)
      (try clear hi)
      (try clear ho0)
      obtain ⟨Ao18, co18, eo18⟩ := Kd.R_slice HO233.out
      (first | subst eo18 | (injection eo18 with f1_ f2_ f3_; have f4_ := f1_.symm; have f5_ := f3_.symm; clear f1_ f2_ f3_; subst f4_; subst f5_))
      refine hK.out _ _ ⟨(blk_cell BK229.out 0).trans rfl, (blk_cell BK227.out 0).trans rfl, (cel HB hw230_0)⟩ (fun hHeld => ?_)
      clear hK K
      refine norm_ (a' := ?_) ?_ ?_
      rotate_left
      ·show Act.put _ (some 20) _ = _
       simp only [Act.put, List.setIfInBounds_toArray, List.set_cons_zero, List.set_cons_succ, i64_w, i32_w]
       rfl
      refine one_ (i := 8) (N := some 21) #[true, true, true, true, true, true, true, true, true, false, false, false] rfl rfl (one_of HT_.out (by kernel_rfl)) (by decide) (fun K hK => ?_)
      refine value_ (w1 := ?_) (v := ?_) (by rfl) rfl ?_ ?_
      rotate_left 2
      ·go_simp
       constructor
       ·rfl
       ·rfl
      refine hK.out _ _ ⟨(blk_cell (blk_alloc BK229.out _) 0).trans rfl, (blk_cell (blk_alloc BK227.out _) 0).trans rfl, (World.cell?_alloc_lt _ _ _ (World.block_lt_of_cell? _ _ ((cel HB hw230_0)))).trans ((cel HB hw230_0))⟩ (fun hHeld => ?_)
      clear hK K
      refine norm_ (a' := ?_) ?_ ?_
      rotate_left
      ·show Act.put _ (some 21) _ = _
       simp only [Act.put, List.setIfInBounds_toArray, List.set_cons_zero, List.set_cons_succ, i64_w, i32_w]
       rfl
      refine one_ (i := 9) (N := some 22) #[true, true, true, true, true, true, true, true, true, true, false, false] rfl rfl (one_of HT_.out (by kernel_rfl)) (by decide) (fun K hK => ?_)
      refine Kd.S_append_step (Kd.slice 3 (Kd.int .i64)) (w0 := w) w.heap.size (by rfl) (.tmp 14) (.tmp 21) 22 35 (.slice none 0 0) 24 rfl Try.underlying22 info35 rfl (by decide) (by omega) u230000 x230000_1 t231 [.slice Ao18 t231.length co18] (fun _ => True) (fun k_ => some k_ = (.slice Ao18 t231.length co18 : Value).ownBlock) rfl rfl ?aP (fun k_ hk_ => ((Kd.R_mono (ok' := fun k_ => ((fun _ => True)) k_ ∧ some k_ ≠ (u230000 : Value).ownBlock) (Kd.R_apart' (HO233.out) (Kd.S_typed HO_230000.out) (by decide)) (fun k_ hk => ⟨trivial, hk.2⟩))).1 k_ hk_.symm) ?aF ?aO ?aB ?aS ?aL ?_
      (case aP => exact Kd.M_row (Kd.R_mono (Kd.R_tight rfl (Kd.R_mono (ok' := fun k_ => ((fun _ => True)) k_ ∧ some k_ ≠ (u230000 : Value).ownBlock) (Kd.R_apart' (HO233.out) (Kd.S_typed HO_230000.out) (by decide)) (fun k_ hk => ⟨trivial, hk.2⟩))) (fun _ h_ => h_)))
      (case aB => exact (bel3 HB GE227 GE228 GE229))
      (case aF => exact (fun _ _ => trivial))
      (case aO => exact (by (with_reducible repeat (first | apply Kd.S_alloc | apply Kd.S_drewN | apply Kd.S_drew)); exact Kd.S_mono HO_230000.out (fun k_ hk => ⟨trivial, fun e_ => hk.2 e_⟩)))
      (case aS => exact (below_size (bel3 HB GE227 GE228 GE229)))
      (case aL => have := LMc11.out; omega)
      intro v235 w17 ho hb hg hat
      rw [← Ny234.out] at ho
      have n0_ := Aside0.mk (blk_grown (g := gb227) (o := .cells #[.slice (some ad230) l0_0.length c0_0] 28 (0, 0)) (bkl BK227) hg (Kd.S_ne HO_230000.out BK227.out (by decide)))
      have n1_ := Aside0.mk (blk_grown (g := gb228) (o := .cells #[.slice none 0 0] 28 (0, 0)) (bkl BK228) hg (Kd.S_ne HO_230000.out BK228.out (by decide)))
      have n2_ := Aside0.mk (blk_grown (g := gb229) (o := .cells #[u230000] 28 (0, 0)) (bkl BK229) hg (Kd.S_ne HO_230000.out BK229.out (by decide)))
      have n3_ := Aside0.mk (hb)
      have n4_ := Aside0.mk (ho)
      clear BK227
      clear BK228
      clear BK229
      clear HB
      clear HO_230000
      clear HO233
      have BK227 := n0_
      have BK228 := n1_
      have BK229 := n2_
      have HB := n3_
      have HO236 := n4_
      clear n0_ n1_ n2_ n3_ n4_
      clear ho hb hg hat
      obtain ⟨Ao19, co19, eo19⟩ := Kd.S_slice HO236.out
      (first | subst eo19 | (injection eo19 with f1_ f2_ f3_; have f4_ := f1_.symm; have f5_ := f3_.symm; clear f1_ f2_ f3_; subst f4_; subst f5_))
      refine hK.out _ _ ⟨(blk_cell BK229.out 0).trans rfl, (blk_cell BK227.out 0).trans rfl, (cel HB hw230_0)⟩ (fun hHeld => ?_)
      clear hK K
      refine norm_ (a' := ?_) ?_ ?_
      rotate_left
      ·show Act.put _ (some 22) _ = _
       simp only [Act.put, List.setIfInBounds_toArray, List.set_cons_zero, List.set_cons_succ, i64_w, i32_w]
       rfl
      refine pure_ (i := 10) (N := some 23) (v := ?_) (a' := ?_) #[true, true, true, true, true, true, true, true, true, true, true, false] rfl rfl (any_of HT_.out (by kernel_rfl)) (fun _ _ _ h => h) (Or.inl ⟨by rfl, ?_⟩) ?_ ?_
      rotate_left
      ·intro w'
       go_simp
       with_reducible rfl
      rotate_left
      ·simp only [Act.put, List.setIfInBounds_toArray, List.set_cons_zero, List.set_cons_succ, i64_w, i32_w]
       rfl
      refine last_ (i := 11) (N := none) #[true, true, true, true, true, true, true, true, true, true, true, true] rfl rfl (one_of HT_.out (by kernel_rfl)) (by decide) (fun K hK => ?_)
      have hs20 : w17.cell? ⟨gb229, 0, none⟩ = some (u230000) := (blk_cell BK229.out 0).trans rfl
      have hfs20 := blk_frozen BK229.out 0
      have hns20_0 := NB227_229.out
      have hns20_1 := NB228_229.out
      have hms20_0 := NB229_227.out
      have hms20_1 := NB229_228.out
      refine skip_ (w1 := ?_) (by rfl) rfl ?_ ?_
      rotate_left
      ·go_simp
       rfl
      refine hK.out _ _ ?_
      clear hK K
      refine done_ (done_of HT_.out (by kernel_rfl)) ?_
      try go_wp2
      go_roundg k1
      case measure => have := HK1.out; omega
      case rel => exact ⟨(wrap64 (x4_1 + 1)), (y234), (.slice Ao19 y234.length co19), (by first | rfl | (simp; done) | (simp [*]; done)), H', ⟨by have := HK1.out; omega⟩, ⟨by (with_reducible repeat (first | apply Kd.S_alloc | apply Kd.S_drewN | apply Kd.S_drew)); exact Kd.S_mono (Kd.S_far (p := ⟨gb229, 0, none⟩) (Kd.S_types HO236.out BK229.out (by decide)) (fun _ hk => hk.2) (.slice Ao19 y234.length co19)) (fun _ hk => trivial)⟩, ⟨by (with_reducible repeat (first | refine blk_drewN ?_ _ | refine blk_drew ?_ | refine blk_alloc ?_ _)); refine blk_far ?_ NB227_229.out _; (with_reducible repeat (first | refine blk_drewN ?_ _ | refine blk_drew ?_ | refine blk_alloc ?_ _)); exact BK227.out⟩, ⟨by (with_reducible repeat (first | refine blk_drewN ?_ _ | refine blk_drew ?_ | refine blk_alloc ?_ _)); refine blk_far ?_ NB228_229.out _; (with_reducible repeat (first | refine blk_drewN ?_ _ | refine blk_drew ?_ | refine blk_alloc ?_ _)); exact BK228.out⟩, ⟨by (with_reducible repeat (first | refine blk_drewN ?_ _ | refine blk_drew ?_ | refine blk_alloc ?_ _)); refine blk_put (cs := #[u230000]) ?_ 0 _ rfl; (with_reducible repeat (first | refine blk_drewN ?_ _ | refine blk_drew ?_ | refine blk_alloc ?_ _)); exact BK229.out⟩, ⟨bel3 HB GE227 GE228 GE229⟩⟩
     ·rw [if_neg c11] at H
      exact absurd H (by simp)
    ·rw [if_neg c9] at H
     exact absurd H (by simp)
   ·rw [if_neg c8] at H
    have c8b0 : decide (x4_1 < (l0_0.length : Int)) = false := decide_eq_false c8
    clear c8
    obtain rfl := Option.some.inj H
    have hnb21 := NB227_228.out
    have hnc21 := NB228_227.out
    have hnb22 := NB227_229.out
    have hnc22 := NB229_227.out
    have hcz23_0 : wr.cell? ⟨gb227, 0, none⟩ = some (.slice A0_0 l0_0.length c0_0) := (blk_cell BK227.out 0).trans rfl
    have hfz23_0 := blk_frozen BK227.out 0
    have hnb24 := NB229_228.out
    have hnc24 := NB228_229.out
    have hcz25_0 : wr.cell? ⟨gb229, 0, none⟩ = some (u230000) := (blk_cell BK229.out 0).trans rfl
    have hfz25_0 := blk_frozen BK229.out 0
    obtain ⟨Ao26, co26, eo26⟩ := Kd.S_slice HO_230000.out
    subst eo26
    have hcz27_0 : wr.cell? ⟨gb228, 0, none⟩ = some (.slice none 0 0) := (blk_cell BK228.out 0).trans rfl
    have hfz27_0 := blk_frozen BK228.out 0
    go_wp2
    refine bodyPost_ret (results_cell_row rfl _ _ gb228 28 #[.slice Ao26 x230000_1.length co26] (0, 0) _ rfl (by (with_reducible repeat (first | refine blk_drewN ?_ _ | refine blk_drew ?_ | refine blk_alloc ?_ _)); refine blk_put (cs := #[.slice none 0 0]) ?_ 0 _ rfl; (with_reducible repeat (first | refine blk_drewN ?_ _ | refine blk_drew ?_ | refine blk_alloc ?_ _)); exact BK228.out) Try.underlying28 rfl (by kernel_rfl)) rfl ?_
    exact ⟨_, by first | rfl | (simp [errW_none, errW_some] <;> rfl) | (simp [*, errW_none, errW_some] <;> rfl), by (with_reducible repeat (first | apply Kd.S_alloc | apply Kd.S_drewN | apply Kd.S_drew)); exact Kd.S_mono (Kd.S_far (p := ⟨gb228, 0, none⟩) (Kd.S_types HO_230000.out BK228.out (by decide)) (fun _ hk => hk.2) (.slice Ao26 x230000_1.length co26)) (fun _ hk => trivial), bel3 HB GE227 GE228 GE229⟩

/-! ### spec_l1Least: function 83 -/
def spec_l1Least.f (a0 : Int) (a1 : Int) : Option (Int) := if a0 < a1 then (some a0) else (some a1)
set_option maxHeartbeats 8000000 in
set_option maxRecDepth 100000 in
theorem spec_l1Least.calls (a0 : Int) (a1 : Int) (r : Int) (w : World) (h : spec_l1Least.f a0 a1 = some r) :
  Calls Try.prog 83 #[.int .i64 a0, .int .i64 a1] w fun e w' => e = .returned (.int .i64 r) ∧ Drawn0 w w' := by
 have H : (if a0 < a1 then (some a0) else (some a1)) = some r := h
 clear h
 by_cases c3 : a0 < a1
 ·rw [if_pos c3] at H
  have c3b0 : decide (a0 < a1) = true := decide_eq_true c3
  clear c3
  obtain rfl := Option.some.inj H
  go_enter Try.func83, Try.ntmps83
  go_wp2
  go_ret
  exact ⟨by first | rfl | (simp; done) | (simp [*]; done), by repeat (first | exact Drawn0.refl _ | apply Drawn0.step)⟩
 ·rw [if_neg c3] at H
  have c3b0 : decide (a0 < a1) = false := decide_eq_false c3
  clear c3
  obtain rfl := Option.some.inj H
  go_enter Try.func83, Try.ntmps83
  go_wp2
  go_ret
  exact ⟨by first | rfl | (simp; done) | (simp [*]; done), by repeat (first | exact Drawn0.refl _ | apply Drawn0.step)⟩

/-! ### spec_l8Earliest: function 53 -/
def spec_l8Earliest.l0 : Nat → List Int → Int → Int → Option (Int)
 | 0, _, _, _ => none
 | k + 1, x0, x3, x4 => if x4 < (x0.length : Int) then (if 0 ≤ x4 then ((spec_l1Least.f x3 (rd x0 x4)).bind fun t238 => (spec_l8Earliest.l0 k x0 t238 (wrap64 (x4 + 1)))) else (none)) else (some x3)
def spec_l8Earliest.f (k : Nat) (l0 : List Int) : Option (Int) := spec_l8Earliest.l0 k l0 100 0
theorem spec_l8Earliest.mono_l : ∀ k, (∀ y0 y1 y2, LeO (spec_l8Earliest.l0 k y0 y1 y2) (spec_l8Earliest.l0 (k + 1) y0 y1 y2))
 | 0 => fun _ _ _ r h => by simp [spec_l8Earliest.l0] at h
 | k + 1 => by
  have ih0 := spec_l8Earliest.mono_l k
  ·intro y0 y1 y2
   unfold spec_l8Earliest.l0
   repeat' first
   | (with_reducible exact ih0 _ _ _)
   | (with_reducible exact LeO.refl _)
   | (with_reducible exact LeO.none _)
   | (with_reducible refine LeO.ite ?_ ?_)
   | (with_reducible refine LeO.bind ?_ (fun _ => ?_))
   | exact ih0 _ _ _
   | exact LeO.none _
   | refine LeO.ite ?_ ?_
   | refine LeO.bind ?_ (fun _ => ?_)
theorem spec_l8Earliest.mono : ∀ a0 k, LeO (spec_l8Earliest.f k a0) (spec_l8Earliest.f (k + 1) a0) := by
 intro a0 k
 have ih0 := spec_l8Earliest.mono_l k
 unfold spec_l8Earliest.f
 repeat' first
   | (with_reducible exact ih0 _ _ _)
   | (with_reducible exact LeO.refl _)
   | (with_reducible exact LeO.none _)
   | (with_reducible refine LeO.ite ?_ ?_)
   | (with_reducible refine LeO.bind ?_ (fun _ => ?_))
   | exact ih0 _ _ _
   | exact LeO.none _
   | refine LeO.ite ?_ ?_
   | refine LeO.bind ?_ (fun _ => ?_)
set_option maxHeartbeats 8000000 in
set_option maxRecDepth 100000 in
theorem spec_l8Earliest.calls (k : Nat) (A0 : Option Addr) (c0 : Nat) (l0 : List Int) (r : Int) (w : World) (hr0 : Kd.C (Kd.int .i64) w A0 l0.length l0) (hc0 : l0.length ≤ c0) (h : spec_l8Earliest.f k l0 = some r) :
  Calls Try.prog 53 #[.slice A0 l0.length c0] w fun e w' => e = .returned (.int .i64 r) ∧ Drawn0 w w' := by
 have HR0 := Aside0.mk hr0
 have HC0 := Aside0.mk hc0
 clear hr0 hc0
 have H : (spec_l8Earliest.l0 k l0 100 0) = some r := h
 clear h
 have H' := Aside0.mk H
 clear H
 go_enter Try.func53, Try.ntmps53
 go_wp2
 go_loopg [3, 4] k (fun kq v3 v4 w' => ∃ (x3_1 : Int) (x4_1 : Int), v3 = .int .i64 x3_1 ∧ v4 = .int .i64 x4_1 ∧ Aside0 (spec_l8Earliest.l0 kq l0 x3_1 x4_1 = some r) ∧ Aside0 (kq ≤ k) ∧ Drawn0 w w')
 case atStart => exact ⟨(100), (0), (by first | rfl | (simp; done) | (simp [*]; done)), (by first | rfl | (simp; done) | (simp [*]; done)), H', ⟨Nat.le_refl _⟩, by repeat (first | exact Drawn0.refl _ | apply Drawn0.step)⟩
 case round =>
  clear H'
  obtain ⟨x3_1, x4_1, rfl, rfl, HA, HK1, ⟨m1, rfl⟩⟩ := hrel
  cases gk with
  | zero => exact absurd HA.out (by simp [spec_l8Earliest.l0])
  | succ k1 =>
   have H := HA.out
   clear HA
   simp only [spec_l8Earliest.l0] at H
   by_cases c2 : x4_1 < (l0.length : Int)
   ·rw [if_pos c2] at H
    have c2b0 : decide (x4_1 < (l0.length : Int)) = true := decide_eq_true c2
    clear c2
    by_cases c3 : 0 ≤ x4_1
    ·rw [if_pos c3] at H
     have c3b0 : decide (0 ≤ x4_1) = true := decide_eq_true c3
     clear c3
     replace H := Option.bind_eq_some_iff.mp H
     obtain ⟨t238, A40, H⟩ := H
     replace H : (spec_l8Earliest.l0 k1 l0 t238 (wrap64 (x4_1 + 1))) = some r := H
     have A4 := Aside0.mk A40
     clear A40
     have H' := Aside0.mk H
     clear H
     have p237 : 0 ≤ (x4_1 : Int) := oda
     have q237 : x4_1 < (l0.length : Int) := oda
     obtain ⟨ad237, e237, hx237_0⟩ := Kd.at_int HR0.out x4_1 p237 q237
     cases e237
     replace p237 := eq_true p237
     replace q237 := eq_true q237
     go_wp2_with (first | ((with_reducible refine gate_callee (f := 83) rfl ?_); refine goesL_ (some 16) rfl rfl Try.func83 (by kernel_rfl) rfl #[.int .i64 x3_1, .int .i64 (rd l0 x4_1)] rfl gmp ?_; (with_reducible refine (spec_l1Least.calls x3_1 (rd l0 x4_1) t238 _ A4.out).mono ?_); rintro e w' ⟨rfl, ⟨nd, rfl⟩⟩; refine ⟨_, rfl, ?_⟩))
     go_roundg k1
     case measure => have := HK1.out; omega
     case rel => exact ⟨(t238), (wrap64 (x4_1 + 1)), (by first | rfl | (simp; done) | (simp [*]; done)), (by first | rfl | (simp; done) | (simp [*]; done)), H', ⟨by have := HK1.out; omega⟩, by repeat (first | exact Drawn0.refl _ | apply Drawn0.step)⟩
    ·rw [if_neg c3] at H
     exact absurd H (by simp)
   ·rw [if_neg c2] at H
    have c2b0 : decide (x4_1 < (l0.length : Int)) = false := decide_eq_false c2
    clear c2
    obtain rfl := Option.some.inj H
    go_wp2
    go_ret
    exact ⟨by first | rfl | (simp; done) | (simp [*]; done), by repeat (first | exact Drawn0.refl _ | apply Drawn0.step)⟩

/-! ### spec_l8Choose: function 71 -/
mutual
def spec_l8Choose.l0 : Nat → Int → Int → Int → Int → List (List Int) → Option (Int)
 | 0, _, _, _, _, _ => none
 | k + 1, x1, x5, x6, x7, x240000 => if x7 < (x240000.length : Int) then (if 0 ≤ x7 then (if ((rd_L1 x240000 x7).length : Int) = 4 then (spec_l8Choose.l0 k x1 x5 x6 (wrap64 (x7 + 1)) x240000) else ((spec_l8Earliest.f k (rd_L1 x240000 x7)).bind fun t242 => (if t242 > x1 then (if x5 < 0 then (spec_l8Choose.j1 k x1 x5 x6 x7 t242 true x240000) else (if 0 ≤ x5 then (if x5 < (x240000.length : Int) then ((spec_l8Earliest.f k (rd_L1 x240000 x5)).bind fun t244 => (spec_l8Choose.j1 k x1 x5 x6 x7 t242 (decide (t242 < t244)) x240000)) else (none)) else (none))) else (spec_l8Choose.j1 k x1 x5 x6 x7 t242 false x240000)))) else (none)) else (if x5 ≥ 0 then (some x5) else (some x6))
def spec_l8Choose.j1 : Nat → Int → Int → Int → Int → Int → Bool → List (List Int) → Option (Int)
 | 0, _, _, _, _, _, _, _ => none
 | k + 1, x1, x5, x6, x7, x8, x45, x240000 => if x45 = true then (if x6 < 0 then (spec_l8Choose.l0 k x1 x7 x7 (wrap64 (x7 + 1)) x240000) else (if 0 ≤ x6 then (if x6 < (x240000.length : Int) then ((spec_l8Earliest.f k (rd_L1 x240000 x6)).bind fun t246 => (if x8 > t246 then (spec_l8Choose.l0 k x1 x7 x7 (wrap64 (x7 + 1)) x240000) else (spec_l8Choose.l0 k x1 x7 x6 (wrap64 (x7 + 1)) x240000))) else (none)) else (none))) else (if x6 < 0 then (spec_l8Choose.l0 k x1 x5 x7 (wrap64 (x7 + 1)) x240000) else (if 0 ≤ x6 then (if x6 < (x240000.length : Int) then ((spec_l8Earliest.f k (rd_L1 x240000 x6)).bind fun t248 => (if x8 > t248 then (spec_l8Choose.l0 k x1 x5 x7 (wrap64 (x7 + 1)) x240000) else (spec_l8Choose.l0 k x1 x5 x6 (wrap64 (x7 + 1)) x240000))) else (none)) else (none)))
end
def spec_l8Choose.f (k : Nat) (l0_0 : List (List Int)) (a1 : Int) : Option (Int) := spec_l8Choose.l0 k a1 (-1) (-1) 0 l0_0
theorem spec_l8Choose.mono_l : ∀ k, (∀ y0 y1 y2 y3 y4, LeO (spec_l8Choose.l0 k y0 y1 y2 y3 y4) (spec_l8Choose.l0 (k + 1) y0 y1 y2 y3 y4)) ∧ (∀ y0 y1 y2 y3 y4 y5 y6, LeO (spec_l8Choose.j1 k y0 y1 y2 y3 y4 y5 y6) (spec_l8Choose.j1 (k + 1) y0 y1 y2 y3 y4 y5 y6))
 | 0 => ⟨fun _ _ _ _ _ r h => by simp [spec_l8Choose.l0] at h, fun _ _ _ _ _ _ _ r h => by simp [spec_l8Choose.j1] at h⟩
 | k + 1 => by
  obtain ⟨ih0, ih1⟩ := spec_l8Choose.mono_l k
  refine ⟨?_, ?_⟩
  ·intro y0 y1 y2 y3 y4
   unfold spec_l8Choose.l0
   repeat' first
   | (with_reducible exact ih0 _ _ _ _ _)
   | (with_reducible exact ih1 _ _ _ _ _ _ _)
   | (with_reducible exact spec_l8Earliest.mono _ _)
   | (with_reducible exact LeO.refl _)
   | (with_reducible exact LeO.none _)
   | (with_reducible refine LeO.ite ?_ ?_)
   | (with_reducible refine LeO.bind ?_ (fun _ => ?_))
   | exact ih0 _ _ _ _ _
   | exact ih1 _ _ _ _ _ _ _
   | exact spec_l8Earliest.mono _ _
   | exact LeO.none _
   | refine LeO.ite ?_ ?_
   | refine LeO.bind ?_ (fun _ => ?_)
  ·intro y0 y1 y2 y3 y4 y5 y6
   unfold spec_l8Choose.j1
   repeat' first
   | (with_reducible exact ih0 _ _ _ _ _)
   | (with_reducible exact ih1 _ _ _ _ _ _ _)
   | (with_reducible exact spec_l8Earliest.mono _ _)
   | (with_reducible exact LeO.refl _)
   | (with_reducible exact LeO.none _)
   | (with_reducible refine LeO.ite ?_ ?_)
   | (with_reducible refine LeO.bind ?_ (fun _ => ?_))
   | exact ih0 _ _ _ _ _
   | exact ih1 _ _ _ _ _ _ _
   | exact spec_l8Earliest.mono _ _
   | exact LeO.none _
   | refine LeO.ite ?_ ?_
   | refine LeO.bind ?_ (fun _ => ?_)
theorem spec_l8Choose.mono : ∀ a0 a1 k, LeO (spec_l8Choose.f k a0 a1) (spec_l8Choose.f (k + 1) a0 a1) := by
 intro a0 a1 k
 obtain ⟨ih0, ih1⟩ := spec_l8Choose.mono_l k
 unfold spec_l8Choose.f
 repeat' first
   | (with_reducible exact ih0 _ _ _ _ _)
   | (with_reducible exact ih1 _ _ _ _ _ _ _)
   | (with_reducible exact spec_l8Earliest.mono _ _)
   | (with_reducible exact LeO.refl _)
   | (with_reducible exact LeO.none _)
   | (with_reducible refine LeO.ite ?_ ?_)
   | (with_reducible refine LeO.bind ?_ (fun _ => ?_))
   | exact ih0 _ _ _ _ _
   | exact ih1 _ _ _ _ _ _ _
   | exact spec_l8Earliest.mono _ _
   | exact LeO.none _
   | refine LeO.ite ?_ ?_
   | refine LeO.bind ?_ (fun _ => ?_)
set_option maxHeartbeats 8000000 in
set_option maxRecDepth 100000 in
theorem spec_l8Choose.calls (k : Nat) (A0_0 : Option Addr) (c0_0 : Nat) (l0_0 : List (List Int)) (a1 : Int) (r : Int) (w : World) (hr0_0 : Kd.C (Kd.slice 3 (Kd.int .i64)) w A0_0 l0_0.length l0_0) (hc0_0 : l0_0.length ≤ c0_0) (h : spec_l8Choose.f k l0_0 a1 = some r) :
  Calls Try.prog 71 #[.agg #[.slice A0_0 l0_0.length c0_0], .int .i64 a1] w fun e w' => e = .returned (.int .i64 r) ∧ Below w.heap.size w w' := by
 have hu28 := Try.underlying28
 have HR0_0 := Aside0.mk hr0_0
 have HC0_0 := Aside0.mk hc0_0
 clear hr0_0 hc0_0
 have HB := Aside0.mk (Below.refl w.heap.size w)
 have H : (spec_l8Choose.l0 k a1 (-1) (-1) 0 l0_0) = some r := h
 clear h
 have H' := Aside0.mk H
 clear H
 go_enter Try.func71, Try.ntmps71
 go_wp2_with (first | ((with_reducible refine gate_dst (N := 2) rfl ?_); refine box_event ?hg (N := 2) ?hd (cs := #[.slice A0_0 l0_0.length c0_0]) (t := 28) ?hr ?_; (case hd => rfl); (case hg => rfl); (case hr => first | (go_simp; done) | (go_simp; rfl)); intro gb239 hg w3 hbox hb; have n0_ := Aside0.mk (below_step (bel HB) hb); have n1_ := Aside0.mk (hbox); have n2_ := Aside0.mk ((by rw [hg]; exact (below_size (bel HB)) : w.heap.size ≤ gb239)); have n3_ := Aside0.mk ((by rw [hg]; exact (below_size (bel HB)) : w.heap.size ≤ gb239)); clear HB; have HB := n0_; have BK239 := n1_; have GW239 := n2_; have GE239 := n3_; clear n0_ n1_ n2_ n3_; clear hb hbox hg))
 go_loopg [5, 6, 7] k (fun kq v5 v6 v7 w' => ∃ (x5_1 : Int) (x6_1 : Int) (x7_1 : Int), v5 = .int .i64 x5_1 ∧ v6 = .int .i64 x6_1 ∧ v7 = .int .i64 x7_1 ∧ Aside0 (spec_l8Choose.l0 kq a1 x5_1 x6_1 x7_1 l0_0 = some r) ∧ Aside0 (kq ≤ k) ∧ Aside0 (w'.heap[gb239]? = some (.cells #[(.slice A0_0 l0_0.length c0_0)] 28 (0, 0))) ∧ Aside0 (Below w.heap.size w w'))
 case atStart => exact ⟨((-1)), ((-1)), (0), (by first | rfl | (simp; done) | (simp [*]; done)), (by first | rfl | (simp; done) | (simp [*]; done)), (by first | rfl | (simp; done) | (simp [*]; done)), H', ⟨Nat.le_refl _⟩, ⟨bkl BK239⟩, ⟨bel1 HB GE239⟩⟩
 case round =>
  clear H'
  try clear p2
  obtain ⟨x5_1, x6_1, x7_1, rfl, rfl, rfl, HA, HK1, BK239, HB⟩ := hrel
  cases gk with
  | zero => exact absurd HA.out (by simp [spec_l8Choose.l0])
  | succ k1 =>
   have H := HA.out
   clear HA
   simp only [spec_l8Choose.l0] at H
   by_cases c4 : x7_1 < (l0_0.length : Int)
   ·rw [if_pos c4] at H
    have c4b0 : decide (x7_1 < (l0_0.length : Int)) = true := decide_eq_true c4
    clear c4
    by_cases c5 : 0 ≤ x7_1
    ·rw [if_pos c5] at H
     have c5b0 : decide (0 ≤ x7_1) = true := decide_eq_true c5
     clear c5
     by_cases c6 : ((rd_L1 l0_0 x7_1).length : Int) = 4
     ·rw [if_pos c6] at H
      have c6b0 : (((rd_L1 l0_0 x7_1).length : Int) == 4) = true := beq_iff_eq.mpr c6
      have c6b1 : (((rd_L1 l0_0 x7_1).length : Int) != 4) = false := bne_eq_false_iff_eq.mpr c6
      clear c6
      have H' := Aside0.mk H
      clear H
      have hcz7_0 : wr.cell? ⟨gb239, 0, none⟩ = some (.slice A0_0 l0_0.length c0_0) := (blk_cell BK239.out 0).trans rfl
      have hfz7_0 := blk_frozen BK239.out 0
      have p240 : 0 ≤ (x7_1 : Int) := oda
      have q240 : x7_1 < (l0_0.length : Int) := oda
      obtain ⟨ad240, A240_0, c240_0, e240, hx240_0, hl240_0, hi240_0⟩ := at_L1 HR0_0.out x7_1 p240 q240
      cases e240
      replace hx240_0 := cel HB hx240_0
      have HR240_0 := Aside0.mk hi240_0
      have HC240_0 := Aside0.mk hl240_0
      clear hi240_0 hl240_0
      replace p240 := eq_true p240
      replace q240 := eq_true q240
      go_wp2
      go_roundg k1
      case measure => have := HK1.out; omega
      case rel => exact ⟨(x5_1), (x6_1), (wrap64 (x7_1 + 1)), (by first | rfl | (simp; done) | (simp [*]; done)), (by first | rfl | (simp; done) | (simp [*]; done)), (by first | rfl | (simp; done) | (simp [*]; done)), H', ⟨by have := HK1.out; omega⟩, ⟨bkl BK239⟩, ⟨bel1 HB GE239⟩⟩
     ·rw [if_neg c6] at H
      have c6b0 : (((rd_L1 l0_0 x7_1).length : Int) == 4) = false := beq_eq_false_iff_ne.mpr c6
      have c6b1 : (((rd_L1 l0_0 x7_1).length : Int) != 4) = true := bne_iff_ne.mpr c6
      replace H := Option.bind_eq_some_iff.mp H
      obtain ⟨t242, A80, H⟩ := H
      replace H : (if t242 > a1 then (if x5_1 < 0 then (spec_l8Choose.j1 k1 a1 x5_1 x6_1 x7_1 t242 true l0_0) else (if 0 ≤ x5_1 then (if x5_1 < (l0_0.length : Int) then ((spec_l8Earliest.f k1 (rd_L1 l0_0 x5_1)).bind fun t244 => (spec_l8Choose.j1 k1 a1 x5_1 x6_1 x7_1 t242 (decide (t242 < t244)) l0_0)) else (none)) else (none))) else (spec_l8Choose.j1 k1 a1 x5_1 x6_1 x7_1 t242 false l0_0)) = some r := H
      have A8 := Aside0.mk A80
      clear A80
      have HC9 := Aside0.mk H
      clear H
      have hcz10_0 : wr.cell? ⟨gb239, 0, none⟩ = some (.slice A0_0 l0_0.length c0_0) := (blk_cell BK239.out 0).trans rfl
      have hfz10_0 := blk_frozen BK239.out 0
      have p240 : 0 ≤ (x7_1 : Int) := oda
      have q240 : x7_1 < (l0_0.length : Int) := oda
      obtain ⟨ad240, A240_0, c240_0, e240, hx240_0, hl240_0, hi240_0⟩ := at_L1 HR0_0.out x7_1 p240 q240
      cases e240
      replace hx240_0 := cel HB hx240_0
      have HR240_0 := Aside0.mk hi240_0
      have HC240_0 := Aside0.mk hl240_0
      clear hi240_0 hl240_0
      replace p240 := eq_true p240
      replace q240 := eq_true q240
      have p241 : 0 ≤ (x7_1 : Int) := oda
      have q241 : x7_1 < (l0_0.length : Int) := oda
      obtain ⟨ad241, A241_0, c241_0, e241, hx241_0, hl241_0, hi241_0⟩ := at_L1 HR0_0.out x7_1 p241 q241
      obtain rfl : ad240 = ad241 := (by injection e241)
      replace hx241_0 := cel HB hx241_0
      have HR241_0 := Aside0.mk hi241_0
      have HC241_0 := Aside0.mk hl241_0
      clear hi241_0 hl241_0
      replace p241 := eq_true p241
      replace q241 := eq_true q241
      have ea_ := Option.some.inj (hx240_0.symm.trans hx241_0)
      injection ea_ with ea_ en_ ec_
      subst ea_
      subst ec_
      clear en_
      go_upto_region 7 with (first | ((with_reducible refine gate_callee (f := 53) rfl ?_); refine goesL_ (some 28) rfl rfl Try.func53 (by kernel_rfl) rfl #[.slice A240_0 (rd_L1 l0_0 x7_1).length c240_0] rfl gmp ?_; (with_reducible refine (spec_l8Earliest.calls k1 _ _ (rd_L1 l0_0 x7_1) t242 _ ?side1 ?side2 A8.out).mono ?_); (case side1 => exact cdl (Kd.C_below HR241_0.out HB.out)); (case side2 => exact HC241_0.out); rintro e w' ⟨rfl, ⟨nd, rfl⟩⟩; refine ⟨_, rfl, ?_⟩))
      (try simp only [Act.put, List.setIfInBounds_toArray, List.set_cons_zero, List.set_cons_succ])
      go_cut [45] (fun v45 wc => ∃ (kq : Nat) (x45_8 : Bool), v45 = .bool x45_8 ∧ Aside0 (spec_l8Choose.j1 kq a1 x5_1 x6_1 x7_1 t242 x45_8 l0_0 = some r) ∧ Aside0 (kq ≤ k1) ∧ Aside0 (wc.heap[gb239]? = some (.cells #[(.slice (some ad240) l0_0.length c0_0)] 28 (0, 0))) ∧ Aside0 (Below w.heap.size w wc))
      case first =>
       have H := HC9.out
       clear HC9
       by_cases c11 : t242 > a1
       ·rw [if_pos c11] at H
        have c11b0 : decide (a1 < t242) = true := decide_eq_true c11
        clear c11
        (first | rw [c11b0] | (simp only [i64_w, i32_w]; rw [c11b0]) | skip)
        by_cases c12 : x5_1 < 0
        ·rw [if_pos c12] at H
         have c12b0 : decide (x5_1 < 0) = true := decide_eq_true c12
         clear c12
         have H' := Aside0.mk H
         clear H
         go_wp2
         go_meet
         case rel => exact ⟨_, (true), (by first | rfl | (simp; done) | (simp [*]; done)), H', ⟨by have := HK1.out; first | omega | exact Nat.le_refl _⟩, ⟨bkl BK239⟩, ⟨bel1 HB GE239⟩⟩
        ·rw [if_neg c12] at H
         have c12b0 : decide (x5_1 < 0) = false := decide_eq_false c12
         clear c12
         by_cases c13 : 0 ≤ x5_1
         ·rw [if_pos c13] at H
          have c13b0 : decide (0 ≤ x5_1) = true := decide_eq_true c13
          clear c13
          by_cases c14 : x5_1 < (l0_0.length : Int)
          ·rw [if_pos c14] at H
           have c14b0 : decide (x5_1 < (l0_0.length : Int)) = true := decide_eq_true c14
           clear c14
           replace H := Option.bind_eq_some_iff.mp H
           obtain ⟨t244, A150, H⟩ := H
           replace H : (spec_l8Choose.j1 k1 a1 x5_1 x6_1 x7_1 t242 (decide (t242 < t244)) l0_0) = some r := H
           have A15 := Aside0.mk A150
           clear A150
           have H' := Aside0.mk H
           clear H
           have hcz16_0 : wr.cell? ⟨gb239, 0, none⟩ = some (.slice (some ad240) l0_0.length c0_0) := (blk_cell BK239.out 0).trans rfl
           have hfz16_0 := blk_frozen BK239.out 0
           have p243 : 0 ≤ (x5_1 : Int) := oda
           have q243 : x5_1 < (l0_0.length : Int) := oda
           obtain ⟨ad243, A243_0, c243_0, e243, hx243_0, hl243_0, hi243_0⟩ := at_L1 HR0_0.out x5_1 p243 q243
           obtain rfl : ad240 = ad243 := (by injection e243)
           replace hx243_0 := cel HB hx243_0
           have HR243_0 := Aside0.mk hi243_0
           have HC243_0 := Aside0.mk hl243_0
           clear hi243_0 hl243_0
           replace p243 := eq_true p243
           replace q243 := eq_true q243
           go_wp2_with (first | (go_at_call 53; (with_reducible refine (spec_l8Earliest.calls k1 _ _ (rd_L1 l0_0 x5_1) t244 _ ?side1 ?side2 A15.out).mono ?_); (case side1 => exact cdl (Kd.C_below HR243_0.out HB.out)); (case side2 => exact HC243_0.out); rintro e w' ⟨rfl, ⟨nd, rfl⟩⟩))
           go_meet
           case rel => exact ⟨_, (decide (t242 < t244)), (by first | rfl | (simp; done) | (simp [*]; done)), H', ⟨by have := HK1.out; first | omega | exact Nat.le_refl _⟩, ⟨bkl BK239⟩, ⟨bel1 HB GE239⟩⟩
          ·rw [if_neg c14] at H
           exact absurd H (by simp)
         ·rw [if_neg c13] at H
          exact absurd H (by simp)
       ·rw [if_neg c11] at H
        have c11b0 : decide (a1 < t242) = false := decide_eq_false c11
        clear c11
        (first | rw [c11b0] | (simp only [i64_w, i32_w]; rw [c11b0]) | skip)
        have H' := Aside0.mk H
        clear H
        go_wp2
        go_meet
        case rel => exact ⟨_, (false), (by first | rfl | (simp; done) | (simp [*]; done)), H', ⟨by have := HK1.out; first | omega | exact Nat.le_refl _⟩, ⟨bkl BK239⟩, ⟨bel1 HB GE239⟩⟩
      case rest =>
       clear HC9
       try clear c1
       try clear c2
       try clear p2
       try clear q2
       try clear hx2
       try clear c4
       try clear c4b0
       try clear c5
       try clear c5b0
       try clear c6
       try clear c6b0
       try clear c6b1
       try clear p6
       try clear c7
       try clear c11
       try clear c11b0
       try clear c12
       try clear c12b0
       try clear c13
       try clear c13b0
       try clear c14
       try clear c14b0
       try clear hcz10_0
       try clear hcz16_0
       try clear hcz7_0
       try clear hfz10_0
       try clear hfz16_0
       try clear hfz7_0
       try clear hx240_0
       try clear hx241_0
       try clear hx243_0
       try clear p2
       try clear p240
       try clear p241
       try clear p243
       try clear q240
       try clear q241
       try clear q243
       obtain ⟨kq, x45_8, rfl, HA, HJ8, BK239, HB⟩ := hcut
       cases kq with
       | zero => exact absurd HA.out (by simp [spec_l8Choose.j1])
       | succ kj8 =>
        have H := HA.out
        clear HA
        simp only [spec_l8Choose.j1] at H
        by_cases c17 : x45_8 = true
        ·subst c17
         have H1 : (if x6_1 < 0 then (spec_l8Choose.l0 kj8 a1 x7_1 x7_1 (wrap64 (x7_1 + 1)) l0_0) else (if 0 ≤ x6_1 then (if x6_1 < (l0_0.length : Int) then ((spec_l8Earliest.f kj8 (rd_L1 l0_0 x6_1)).bind fun t246 => (if t242 > t246 then (spec_l8Choose.l0 kj8 a1 x7_1 x7_1 (wrap64 (x7_1 + 1)) l0_0) else (spec_l8Choose.l0 kj8 a1 x7_1 x6_1 (wrap64 (x7_1 + 1)) l0_0))) else (none)) else (none))) = some r := by rw [if_pos rfl] at H; exact H
         clear H
         have H := H1
         clear H1
         by_cases c18 : x6_1 < 0
         ·rw [if_pos c18] at H
          have c18b0 : decide (x6_1 < 0) = true := decide_eq_true c18
          clear c18
          have H' := Aside0.mk H
          clear H
          go_wp2
          go_roundg kj8
          case measure => have := HK1.out; have := HJ8.out; omega
          case rel => exact ⟨(x7_1), (x7_1), (wrap64 (x7_1 + 1)), (by first | rfl | (simp; done) | (simp [*]; done)), (by first | rfl | (simp; done) | (simp [*]; done)), (by first | rfl | (simp; done) | (simp [*]; done)), H', ⟨by have := HK1.out; have := HJ8.out; omega⟩, ⟨bkl BK239⟩, ⟨bel1 HB GE239⟩⟩
         ·rw [if_neg c18] at H
          have c18b0 : decide (x6_1 < 0) = false := decide_eq_false c18
          clear c18
          by_cases c19 : 0 ≤ x6_1
          ·rw [if_pos c19] at H
           have c19b0 : decide (0 ≤ x6_1) = true := decide_eq_true c19
           clear c19
           by_cases c20 : x6_1 < (l0_0.length : Int)
           ·rw [if_pos c20] at H
            have c20b0 : decide (x6_1 < (l0_0.length : Int)) = true := decide_eq_true c20
            clear c20
            replace H := Option.bind_eq_some_iff.mp H
            obtain ⟨t246, A210, H⟩ := H
            replace H : (if t242 > t246 then (spec_l8Choose.l0 kj8 a1 x7_1 x7_1 (wrap64 (x7_1 + 1)) l0_0) else (spec_l8Choose.l0 kj8 a1 x7_1 x6_1 (wrap64 (x7_1 + 1)) l0_0)) = some r := H
            have A21 := Aside0.mk A210
            clear A210
            by_cases c22 : t242 > t246
            ·rw [if_pos c22] at H
             have c22b0 : decide (t246 < t242) = true := decide_eq_true c22
             clear c22
             have H' := Aside0.mk H
             clear H
             have hcz23_0 : wc.cell? ⟨gb239, 0, none⟩ = some (.slice (some ad240) l0_0.length c0_0) := (blk_cell BK239.out 0).trans rfl
             have hfz23_0 := blk_frozen BK239.out 0
             have p245 : 0 ≤ (x6_1 : Int) := oda
             have q245 : x6_1 < (l0_0.length : Int) := oda
             obtain ⟨ad245, A245_0, c245_0, e245, hx245_0, hl245_0, hi245_0⟩ := at_L1 HR0_0.out x6_1 p245 q245
             obtain rfl : ad240 = ad245 := (by injection e245)
             replace hx245_0 := cel HB hx245_0
             have HR245_0 := Aside0.mk hi245_0
             have HC245_0 := Aside0.mk hl245_0
             clear hi245_0 hl245_0
             replace p245 := eq_true p245
             replace q245 := eq_true q245
             go_wp2_with (first | (go_at_call 53; (with_reducible refine (spec_l8Earliest.calls kj8 _ _ (rd_L1 l0_0 x6_1) t246 _ ?side1 ?side2 A21.out).mono ?_); (case side1 => exact cdl (Kd.C_below HR245_0.out HB.out)); (case side2 => exact HC245_0.out); rintro e w' ⟨rfl, ⟨nd, rfl⟩⟩))
             go_roundg kj8
             case measure => have := HK1.out; have := HJ8.out; omega
             case rel => exact ⟨(x7_1), (x7_1), (wrap64 (x7_1 + 1)), (by first | rfl | (simp; done) | (simp [*]; done)), (by first | rfl | (simp; done) | (simp [*]; done)), (by first | rfl | (simp; done) | (simp [*]; done)), H', ⟨by have := HK1.out; have := HJ8.out; omega⟩, ⟨bkl BK239⟩, ⟨bel1 HB GE239⟩⟩
            ·rw [if_neg c22] at H
             have c22b0 : decide (t246 < t242) = false := decide_eq_false c22
             clear c22
             have H' := Aside0.mk H
             clear H
             have hcz24_0 : wc.cell? ⟨gb239, 0, none⟩ = some (.slice (some ad240) l0_0.length c0_0) := (blk_cell BK239.out 0).trans rfl
             have hfz24_0 := blk_frozen BK239.out 0
             have p245 : 0 ≤ (x6_1 : Int) := oda
             have q245 : x6_1 < (l0_0.length : Int) := oda
             obtain ⟨ad245, A245_0, c245_0, e245, hx245_0, hl245_0, hi245_0⟩ := at_L1 HR0_0.out x6_1 p245 q245
             obtain rfl : ad240 = ad245 := (by injection e245)
             replace hx245_0 := cel HB hx245_0
             have HR245_0 := Aside0.mk hi245_0
             have HC245_0 := Aside0.mk hl245_0
             clear hi245_0 hl245_0
             replace p245 := eq_true p245
             replace q245 := eq_true q245
             go_wp2_with (first | (go_at_call 53; (with_reducible refine (spec_l8Earliest.calls kj8 _ _ (rd_L1 l0_0 x6_1) t246 _ ?side1 ?side2 A21.out).mono ?_); (case side1 => exact cdl (Kd.C_below HR245_0.out HB.out)); (case side2 => exact HC245_0.out); rintro e w' ⟨rfl, ⟨nd, rfl⟩⟩))
             go_roundg kj8
             case measure => have := HK1.out; have := HJ8.out; omega
             case rel => exact ⟨(x7_1), (x6_1), (wrap64 (x7_1 + 1)), (by first | rfl | (simp; done) | (simp [*]; done)), (by first | rfl | (simp; done) | (simp [*]; done)), (by first | rfl | (simp; done) | (simp [*]; done)), H', ⟨by have := HK1.out; have := HJ8.out; omega⟩, ⟨bkl BK239⟩, ⟨bel1 HB GE239⟩⟩
           ·rw [if_neg c20] at H
            exact absurd H (by simp)
          ·rw [if_neg c19] at H
           exact absurd H (by simp)
        ·replace c17 := Bool.eq_false_iff.mpr c17
         subst c17
         have H1 : (if x6_1 < 0 then (spec_l8Choose.l0 kj8 a1 x5_1 x7_1 (wrap64 (x7_1 + 1)) l0_0) else (if 0 ≤ x6_1 then (if x6_1 < (l0_0.length : Int) then ((spec_l8Earliest.f kj8 (rd_L1 l0_0 x6_1)).bind fun t248 => (if t242 > t248 then (spec_l8Choose.l0 kj8 a1 x5_1 x7_1 (wrap64 (x7_1 + 1)) l0_0) else (spec_l8Choose.l0 kj8 a1 x5_1 x6_1 (wrap64 (x7_1 + 1)) l0_0))) else (none)) else (none))) = some r := by rw [if_neg (show ¬ (false = true) by decide)] at H; exact H
         clear H
         have H := H1
         clear H1
         by_cases c25 : x6_1 < 0
         ·rw [if_pos c25] at H
          have c25b0 : decide (x6_1 < 0) = true := decide_eq_true c25
          clear c25
          have H' := Aside0.mk H
          clear H
          go_wp2
          go_roundg kj8
          case measure => have := HK1.out; have := HJ8.out; omega
          case rel => exact ⟨(x5_1), (x7_1), (wrap64 (x7_1 + 1)), (by first | rfl | (simp; done) | (simp [*]; done)), (by first | rfl | (simp; done) | (simp [*]; done)), (by first | rfl | (simp; done) | (simp [*]; done)), H', ⟨by have := HK1.out; have := HJ8.out; omega⟩, ⟨bkl BK239⟩, ⟨bel1 HB GE239⟩⟩
         ·rw [if_neg c25] at H
          have c25b0 : decide (x6_1 < 0) = false := decide_eq_false c25
          clear c25
          by_cases c26 : 0 ≤ x6_1
          ·rw [if_pos c26] at H
           have c26b0 : decide (0 ≤ x6_1) = true := decide_eq_true c26
           clear c26
           by_cases c27 : x6_1 < (l0_0.length : Int)
           ·rw [if_pos c27] at H
            have c27b0 : decide (x6_1 < (l0_0.length : Int)) = true := decide_eq_true c27
            clear c27
            replace H := Option.bind_eq_some_iff.mp H
            obtain ⟨t248, A280, H⟩ := H
            replace H : (if t242 > t248 then (spec_l8Choose.l0 kj8 a1 x5_1 x7_1 (wrap64 (x7_1 + 1)) l0_0) else (spec_l8Choose.l0 kj8 a1 x5_1 x6_1 (wrap64 (x7_1 + 1)) l0_0)) = some r := H
            have A28 := Aside0.mk A280
            clear A280
            by_cases c29 : t242 > t248
            ·rw [if_pos c29] at H
             have c29b0 : decide (t248 < t242) = true := decide_eq_true c29
             clear c29
             have H' := Aside0.mk H
             clear H
             have hcz30_0 : wc.cell? ⟨gb239, 0, none⟩ = some (.slice (some ad240) l0_0.length c0_0) := (blk_cell BK239.out 0).trans rfl
             have hfz30_0 := blk_frozen BK239.out 0
             have p247 : 0 ≤ (x6_1 : Int) := oda
             have q247 : x6_1 < (l0_0.length : Int) := oda
             obtain ⟨ad247, A247_0, c247_0, e247, hx247_0, hl247_0, hi247_0⟩ := at_L1 HR0_0.out x6_1 p247 q247
             obtain rfl : ad240 = ad247 := (by injection e247)
             replace hx247_0 := cel HB hx247_0
             have HR247_0 := Aside0.mk hi247_0
             have HC247_0 := Aside0.mk hl247_0
             clear hi247_0 hl247_0
             replace p247 := eq_true p247
             replace q247 := eq_true q247
             go_wp2_with (first | (go_at_call 53; (with_reducible refine (spec_l8Earliest.calls kj8 _ _ (rd_L1 l0_0 x6_1) t248 _ ?side1 ?side2 A28.out).mono ?_); (case side1 => exact cdl (Kd.C_below HR247_0.out HB.out)); (case side2 => exact HC247_0.out); rintro e w' ⟨rfl, ⟨nd, rfl⟩⟩))
             go_roundg kj8
             case measure => have := HK1.out; have := HJ8.out; omega
             case rel => exact ⟨(x5_1), (x7_1), (wrap64 (x7_1 + 1)), (by first | rfl | (simp; done) | (simp [*]; done)), (by first | rfl | (simp; done) | (simp [*]; done)), (by first | rfl | (simp; done) | (simp [*]; done)), H', ⟨by have := HK1.out; have := HJ8.out; omega⟩, ⟨bkl BK239⟩, ⟨bel1 HB GE239⟩⟩
            ·rw [if_neg c29] at H
             have c29b0 : decide (t248 < t242) = false := decide_eq_false c29
             clear c29
             have H' := Aside0.mk H
             clear H
             have hcz31_0 : wc.cell? ⟨gb239, 0, none⟩ = some (.slice (some ad240) l0_0.length c0_0) := (blk_cell BK239.out 0).trans rfl
             have hfz31_0 := blk_frozen BK239.out 0
             have p247 : 0 ≤ (x6_1 : Int) := oda
             have q247 : x6_1 < (l0_0.length : Int) := oda
             obtain ⟨ad247, A247_0, c247_0, e247, hx247_0, hl247_0, hi247_0⟩ := at_L1 HR0_0.out x6_1 p247 q247
             obtain rfl : ad240 = ad247 := (by injection e247)
             replace hx247_0 := cel HB hx247_0
             have HR247_0 := Aside0.mk hi247_0
             have HC247_0 := Aside0.mk hl247_0
             clear hi247_0 hl247_0
             replace p247 := eq_true p247
             replace q247 := eq_true q247
             go_wp2_with (first | (go_at_call 53; (with_reducible refine (spec_l8Earliest.calls kj8 _ _ (rd_L1 l0_0 x6_1) t248 _ ?side1 ?side2 A28.out).mono ?_); (case side1 => exact cdl (Kd.C_below HR247_0.out HB.out)); (case side2 => exact HC247_0.out); rintro e w' ⟨rfl, ⟨nd, rfl⟩⟩))
             go_roundg kj8
             case measure => have := HK1.out; have := HJ8.out; omega
             case rel => exact ⟨(x5_1), (x6_1), (wrap64 (x7_1 + 1)), (by first | rfl | (simp; done) | (simp [*]; done)), (by first | rfl | (simp; done) | (simp [*]; done)), (by first | rfl | (simp; done) | (simp [*]; done)), H', ⟨by have := HK1.out; have := HJ8.out; omega⟩, ⟨bkl BK239⟩, ⟨bel1 HB GE239⟩⟩
           ·rw [if_neg c27] at H
            exact absurd H (by simp)
          ·rw [if_neg c26] at H
           exact absurd H (by simp)
    ·rw [if_neg c5] at H
     exact absurd H (by simp)
   ·rw [if_neg c4] at H
    have c4b0 : decide (x7_1 < (l0_0.length : Int)) = false := decide_eq_false c4
    clear c4
    by_cases c32 : x5_1 ≥ 0
    ·rw [if_pos c32] at H
     have c32b0 : decide (0 ≤ x5_1) = true := decide_eq_true c32
     clear c32
     obtain rfl := Option.some.inj H
     have hcz33_0 : wr.cell? ⟨gb239, 0, none⟩ = some (.slice A0_0 l0_0.length c0_0) := (blk_cell BK239.out 0).trans rfl
     have hfz33_0 := blk_frozen BK239.out 0
     go_wp2
     go_ret
     exact ⟨by first | rfl | (simp [errW_none, errW_some] <;> rfl) | (simp [*, errW_none, errW_some] <;> rfl), bel1 HB GE239⟩
    ·rw [if_neg c32] at H
     have c32b0 : decide (0 ≤ x5_1) = false := decide_eq_false c32
     clear c32
     obtain rfl := Option.some.inj H
     have hcz34_0 : wr.cell? ⟨gb239, 0, none⟩ = some (.slice A0_0 l0_0.length c0_0) := (blk_cell BK239.out 0).trans rfl
     have hfz34_0 := blk_frozen BK239.out 0
     go_wp2
     go_ret
     exact ⟨by first | rfl | (simp [errW_none, errW_some] <;> rfl) | (simp [*, errW_none, errW_some] <;> rfl), bel1 HB GE239⟩

end Go.Proofs.Ytchjkaondonldaa.P
