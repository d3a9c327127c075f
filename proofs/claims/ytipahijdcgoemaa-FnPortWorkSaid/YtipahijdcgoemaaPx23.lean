-- Written by a program of this session over the translation (a variant of the printer, see wip/gen); Lean checks it.
import Derived.Test.YtipahijdcgoemaaPx0
import Derived.Test.YtipahijdcgoemaaPx3
import Derived.Test.YtipahijdcgoemaaPx22
namespace Go.Proofs.Ytipahijdcgoemaa.P
open Go.RowKit Go.Proofs.YtipahijdcgoemaaW.PrintWords Go.Proofs.YtipahijdcgoemaaW.PrintLast Go.Proofs.YtipahijdcgoemaaW.PrintMore
attribute [local go_sem] Go.Proofs.Ytipahijdcgoemaa.V.isSome_setCell max2_int min2_int max_two min_two max_three min_three max_four min_four
set_option linter.unusedVariables false
set_option linter.unusedSimpArgs false
/-! ### spec_l9Good: function 77 -/
mutual
def spec_l9Good.j0 : Nat → Bool → Int → List (List Int) → Option (Bool)
 | 0, _, _, _ => none
 | k + 1, x17, x423000, x423001 => if x17 = true then (some false) else (spec_l9Good.l0 k (([] : List Int)) 0 x423000 x423001)
def spec_l9Good.l0 : Nat → List Int → Int → Int → List (List Int) → Option (Bool)
 | 0, _, _, _, _ => none
 | k + 1, x3, x4, x423000, x423001 => if x4 < (x423001.length : Int) then (if 0 ≤ x4 then (if ((rd_L2 x423001 x4).length : Int) > x423000 then (some false) else (spec_l9Good.l1 k x3 x4 0 x423000 x423001)) else (none)) else (some true)
def spec_l9Good.l1 : Nat → List Int → Int → Int → Int → List (List Int) → Option (Bool)
 | 0, _, _, _, _, _ => none
 | k + 1, x3, x4, x5, x423000, x423001 => if 0 ≤ x4 then (if x4 < (x423001.length : Int) then (if x5 < ((rd_L2 x423001 x4).length : Int) then (if 0 ≤ x5 then ((spec_l1In.f (rd (rd_L2 x423001 x4) x5) 1 99).bind fun t432 => (if t432 = true then ((spec_l1Has.f k x3 (rd (rd_L2 x423001 x4) x5)).bind fun t433 => (if t433 = true then (some false) else (if x3.length < 17592186044416 then (spec_l9Good.l1 k (x3 ++ [rd (rd_L2 x423001 x4) x5]) x4 (wrap64 (x5 + 1)) x423000 x423001) else (none)))) else (some false))) else (none)) else (spec_l9Good.l0 k x3 (wrap64 (x4 + 1)) x423000 x423001)) else (none)) else (none)
end
def spec_l9Good.f (k : Nat) (a0_0 : Int) (l0_1 : List (List Int)) : Option (Bool) := (spec_l1In.f a0_0 1 4).bind fun t423 => (if t423 = true then ((spec_l1In.f (l0_1.length : Int) 1 5).bind fun t424 => (spec_l9Good.j0 k (!t424) a0_0 l0_1)) else (spec_l9Good.j0 k true a0_0 l0_1))
theorem spec_l9Good.mono_l : ∀ k, (∀ y0 y1 y2, LeO (spec_l9Good.j0 k y0 y1 y2) (spec_l9Good.j0 (k + 1) y0 y1 y2)) ∧ (∀ y0 y1 y2 y3, LeO (spec_l9Good.l0 k y0 y1 y2 y3) (spec_l9Good.l0 (k + 1) y0 y1 y2 y3)) ∧ (∀ y0 y1 y2 y3 y4, LeO (spec_l9Good.l1 k y0 y1 y2 y3 y4) (spec_l9Good.l1 (k + 1) y0 y1 y2 y3 y4))
 | 0 => ⟨fun _ _ _ r h => by simp [spec_l9Good.j0] at h, fun _ _ _ _ r h => by simp [spec_l9Good.l0] at h, fun _ _ _ _ _ r h => by simp [spec_l9Good.l1] at h⟩
 | k + 1 => by
  obtain ⟨ih0, ih1, ih2⟩ := spec_l9Good.mono_l k
  refine ⟨?_, ?_, ?_⟩
  ·intro y0 y1 y2
   unfold spec_l9Good.j0
   repeat' first
   | (with_reducible exact ih0 _ _ _)
   | (with_reducible exact ih1 _ _ _ _)
   | (with_reducible exact ih2 _ _ _ _ _)
   | (with_reducible exact spec_l1Has.mono _ _ _)
   | (with_reducible exact LeO.refl _)
   | (with_reducible exact LeO.none _)
   | (with_reducible refine LeO.ite ?_ ?_)
   | (with_reducible refine LeO.bind ?_ (fun _ => ?_))
   | exact ih0 _ _ _
   | exact ih1 _ _ _ _
   | exact ih2 _ _ _ _ _
   | exact spec_l1Has.mono _ _ _
   | exact LeO.none _
   | refine LeO.ite ?_ ?_
   | refine LeO.bind ?_ (fun _ => ?_)
  ·intro y0 y1 y2 y3
   unfold spec_l9Good.l0
   repeat' first
   | (with_reducible exact ih0 _ _ _)
   | (with_reducible exact ih1 _ _ _ _)
   | (with_reducible exact ih2 _ _ _ _ _)
   | (with_reducible exact spec_l1Has.mono _ _ _)
   | (with_reducible exact LeO.refl _)
   | (with_reducible exact LeO.none _)
   | (with_reducible refine LeO.ite ?_ ?_)
   | (with_reducible refine LeO.bind ?_ (fun _ => ?_))
   | exact ih0 _ _ _
   | exact ih1 _ _ _ _
   | exact ih2 _ _ _ _ _
   | exact spec_l1Has.mono _ _ _
   | exact LeO.none _
   | refine LeO.ite ?_ ?_
   | refine LeO.bind ?_ (fun _ => ?_)
  ·intro y0 y1 y2 y3 y4
   unfold spec_l9Good.l1
   repeat' first
   | (with_reducible exact ih0 _ _ _)
   | (with_reducible exact ih1 _ _ _ _)
   | (with_reducible exact ih2 _ _ _ _ _)
   | (with_reducible exact spec_l1Has.mono _ _ _)
   | (with_reducible exact LeO.refl _)
   | (with_reducible exact LeO.none _)
   | (with_reducible refine LeO.ite ?_ ?_)
   | (with_reducible refine LeO.bind ?_ (fun _ => ?_))
   | exact ih0 _ _ _
   | exact ih1 _ _ _ _
   | exact ih2 _ _ _ _ _
   | exact spec_l1Has.mono _ _ _
   | exact LeO.none _
   | refine LeO.ite ?_ ?_
   | refine LeO.bind ?_ (fun _ => ?_)
theorem spec_l9Good.mono : ∀ a0 a1 k, LeO (spec_l9Good.f k a0 a1) (spec_l9Good.f (k + 1) a0 a1) := by
 intro a0 a1 k
 obtain ⟨ih0, ih1, ih2⟩ := spec_l9Good.mono_l k
 unfold spec_l9Good.f
 repeat' first
   | (with_reducible exact ih0 _ _ _)
   | (with_reducible exact ih1 _ _ _ _)
   | (with_reducible exact ih2 _ _ _ _ _)
   | (with_reducible exact spec_l1Has.mono _ _ _)
   | (with_reducible exact LeO.refl _)
   | (with_reducible exact LeO.none _)
   | (with_reducible refine LeO.ite ?_ ?_)
   | (with_reducible refine LeO.bind ?_ (fun _ => ?_))
   | exact ih0 _ _ _
   | exact ih1 _ _ _ _
   | exact ih2 _ _ _ _ _
   | exact spec_l1Has.mono _ _ _
   | exact LeO.none _
   | refine LeO.ite ?_ ?_
   | refine LeO.bind ?_ (fun _ => ?_)
set_option maxHeartbeats 8000000 in
set_option maxRecDepth 100000 in
theorem spec_l9Good.calls (k : Nat) (a0_0 : Int) (A0_1 : Option Addr) (c0_1 : Nat) (l0_1 : List (List Int)) (r : Bool) (w : World) (hr0_1 : Kd.C (Kd.slice 3 (Kd.int .i64)) w A0_1 l0_1.length l0_1) (hc0_1 : l0_1.length ≤ c0_1) (h : spec_l9Good.f k a0_0 l0_1 = some r) :
  Calls Try.prog 77 #[.agg #[.int .i64 a0_0, .slice A0_1 l0_1.length c0_1]] w fun e w' => e = .returned (.bool r) ∧ Below w.heap.size w w' := by
 have hu45 := Try.underlying45
 have HR0_1 := Aside0.mk hr0_1
 have HC0_1 := Aside0.mk hc0_1
 clear hr0_1 hc0_1
 have HB := Aside0.mk (Below.refl w.heap.size w)
 have H : ((spec_l1In.f a0_0 1 4).bind fun t423 => (if t423 = true then ((spec_l1In.f (l0_1.length : Int) 1 5).bind fun t424 => (spec_l9Good.j0 k (!t424) a0_0 l0_1)) else (spec_l9Good.j0 k true a0_0 l0_1))) = some r := h
 clear h
 have HC2 := Aside0.mk H
 clear H
 go_enter Try.func77, Try.ntmps77
 go_upto_region 1 with (first | ((with_reducible refine gate_dst (N := 1) rfl ?_); (try (refine gate_guard (by rfl) ?_; dsimp only)); refine box_event ?hg (N := 1) ?hd (cs := #[.int .i64 a0_0, .slice A0_1 l0_1.length c0_1]) (t := 45) ?hr ?_; (case hd => rfl); (case hg => rfl); (case hr => first | (go_simp; done) | (go_simp; rfl)); intro gb422 hg w3 hbox hb; have n0_ := Aside0.mk (below_step (bel HB) hb); have n1_ := Aside0.mk (hbox); have n2_ := Aside0.mk ((by rw [hg]; exact (below_size (bel HB)) : w.heap.size ≤ gb422)); have n3_ := Aside0.mk ((by rw [hg]; exact (below_size (bel HB)) : w.heap.size ≤ gb422)); clear HB; have HB := n0_; have BK422 := n1_; have GW422 := n2_; have GE422 := n3_; clear n0_ n1_ n2_ n3_; clear hb hbox hg))
 repeat (go_quiet (first | ((with_reducible refine gate_dst (N := 1) rfl ?_); (try (refine gate_guard (by rfl) ?_; dsimp only)); refine box_event ?hg (N := 1) ?hd (cs := #[.int .i64 a0_0, .slice A0_1 l0_1.length c0_1]) (t := 45) ?hr ?_; (case hd => rfl); (case hg => rfl); (case hr => first | (go_simp; done) | (go_simp; rfl)); intro gb422 hg w3 hbox hb; have n0_ := Aside0.mk (below_step (bel HB) hb); have n1_ := Aside0.mk (hbox); have n2_ := Aside0.mk ((by rw [hg]; exact (below_size (bel HB)) : w.heap.size ≤ gb422)); have n3_ := Aside0.mk ((by rw [hg]; exact (below_size (bel HB)) : w.heap.size ≤ gb422)); clear HB; have HB := n0_; have BK422 := n1_; have GW422 := n2_; have GE422 := n3_; clear n0_ n1_ n2_ n3_; clear hb hbox hg)); go_upto_region 1 with (first | ((with_reducible refine gate_dst (N := 1) rfl ?_); (try (refine gate_guard (by rfl) ?_; dsimp only)); refine box_event ?hg (N := 1) ?hd (cs := #[.int .i64 a0_0, .slice A0_1 l0_1.length c0_1]) (t := 45) ?hr ?_; (case hd => rfl); (case hg => rfl); (case hr => first | (go_simp; done) | (go_simp; rfl)); intro gb422 hg w3 hbox hb; have n0_ := Aside0.mk (below_step (bel HB) hb); have n1_ := Aside0.mk (hbox); have n2_ := Aside0.mk ((by rw [hg]; exact (below_size (bel HB)) : w.heap.size ≤ gb422)); have n3_ := Aside0.mk ((by rw [hg]; exact (below_size (bel HB)) : w.heap.size ≤ gb422)); clear HB; have HB := n0_; have BK422 := n1_; have GW422 := n2_; have GE422 := n3_; clear n0_ n1_ n2_ n3_; clear hb hbox hg)))
 (try simp only [Act.put, List.setIfInBounds_toArray, List.set_cons_zero, List.set_cons_succ])
 go_cut [17] (fun v17 wc => ∃ (kq : Nat) (x17_1 : Bool), v17 = .bool x17_1 ∧ Aside0 (spec_l9Good.j0 kq x17_1 a0_0 l0_1 = some r) ∧ Aside0 (kq ≤ k) ∧ Aside0 (wc.heap[gb422]? = some (.cells #[.int .i64 a0_0, (.slice A0_1 l0_1.length c0_1)] 45 (0, 0))) ∧ Aside0 (Below w.heap.size w wc))
 case first =>
  have H := HC2.out
  clear HC2
  replace H := Option.bind_eq_some_iff.mp H
  obtain ⟨t423, A40, H⟩ := H
  replace H : (if t423 = true then ((spec_l1In.f (l0_1.length : Int) 1 5).bind fun t424 => (spec_l9Good.j0 k (!t424) a0_0 l0_1)) else (spec_l9Good.j0 k true a0_0 l0_1)) = some r := H
  have A4 := Aside0.mk A40
  clear A40
  by_cases c5 : t423 = true
  rotate_left
  ·replace c5 := Bool.eq_false_iff.mpr c5
   subst c5
   have H1 : (spec_l9Good.j0 k true a0_0 l0_1) = some r := by rw [if_neg (show ¬ (false = true) by decide)] at H; exact H
   clear H
   have H := H1
   clear H1
   have H' := Aside0.mk H
   clear H
   have hcz8_0 : w3.cell? ⟨gb422, 0, none⟩ = some (.int .i64 a0_0) := (blk_cell BK422.out 0).trans rfl
   have hcz8_1 : w3.cell? ⟨gb422, 1, none⟩ = some (.slice A0_1 l0_1.length c0_1) := (blk_cell BK422.out 1).trans rfl
   have hfz8_0 := blk_frozen BK422.out 0
   have hfz8_1 := blk_frozen BK422.out 1
   go_wp2_with (first | (go_at_call 30; (with_reducible refine (spec_l1In.calls a0_0 1 4 false _ A4.out).mono ?_); rintro e w' ⟨rfl, ⟨nd, rfl⟩⟩; (try first | exact ⟨rfl, _, dd2⟩ | exact ⟨rfl, _, dd3⟩)))
   repeat (go_quiet (first | (go_at_call 30; (with_reducible refine (spec_l1In.calls a0_0 1 4 false _ A4.out).mono ?_); rintro e w' ⟨rfl, ⟨nd, rfl⟩⟩; (try first | exact ⟨rfl, _, dd2⟩ | exact ⟨rfl, _, dd3⟩))); try go_wp2_with (first | (go_at_call 30; (with_reducible refine (spec_l1In.calls a0_0 1 4 false _ A4.out).mono ?_); rintro e w' ⟨rfl, ⟨nd, rfl⟩⟩; (try first | exact ⟨rfl, _, dd2⟩ | exact ⟨rfl, _, dd3⟩))))
   go_meet
   case rel => exact ⟨_, (true), (by first | rfl | (simp; done) | (simp [*]; done)), H', ⟨by first | omega | exact Nat.le_refl _⟩, ⟨bkl BK422⟩, ⟨bel1 HB GE422⟩⟩
  subst c5
  have H1 : ((spec_l1In.f (l0_1.length : Int) 1 5).bind fun t424 => (spec_l9Good.j0 k (!t424) a0_0 l0_1)) = some r := by rw [if_pos rfl] at H; exact H
  clear H
  have H := H1
  clear H1
  replace H := Option.bind_eq_some_iff.mp H
  obtain ⟨t424, A60, H⟩ := H
  replace H : (spec_l9Good.j0 k (!t424) a0_0 l0_1) = some r := H
  have A6 := Aside0.mk A60
  clear A60
  have H' := Aside0.mk H
  clear H
  have hcz7_0 : w3.cell? ⟨gb422, 0, none⟩ = some (.int .i64 a0_0) := (blk_cell BK422.out 0).trans rfl
  have hcz7_1 : w3.cell? ⟨gb422, 1, none⟩ = some (.slice A0_1 l0_1.length c0_1) := (blk_cell BK422.out 1).trans rfl
  have hfz7_0 := blk_frozen BK422.out 0
  have hfz7_1 := blk_frozen BK422.out 1
  go_wp2_with (first | (go_at_call 30; (with_reducible refine (spec_l1In.calls a0_0 1 4 true _ A4.out).mono ?_); rintro e w' ⟨rfl, ⟨nd, rfl⟩⟩; (try first | exact ⟨rfl, _, dd2⟩ | exact ⟨rfl, _, dd3⟩)) | (go_at_call 30; (with_reducible refine (spec_l1In.calls (l0_1.length : Int) 1 5 t424 _ A6.out).mono ?_); rintro e w' ⟨rfl, ⟨nd, rfl⟩⟩; (try first | exact ⟨rfl, _, dd2⟩ | exact ⟨rfl, _, dd3⟩)))
  repeat (go_quiet (first | (go_at_call 30; (with_reducible refine (spec_l1In.calls a0_0 1 4 true _ A4.out).mono ?_); rintro e w' ⟨rfl, ⟨nd, rfl⟩⟩; (try first | exact ⟨rfl, _, dd2⟩ | exact ⟨rfl, _, dd3⟩)) | (go_at_call 30; (with_reducible refine (spec_l1In.calls (l0_1.length : Int) 1 5 t424 _ A6.out).mono ?_); rintro e w' ⟨rfl, ⟨nd, rfl⟩⟩; (try first | exact ⟨rfl, _, dd2⟩ | exact ⟨rfl, _, dd3⟩))); try go_wp2_with (first | (go_at_call 30; (with_reducible refine (spec_l1In.calls a0_0 1 4 true _ A4.out).mono ?_); rintro e w' ⟨rfl, ⟨nd, rfl⟩⟩; (try first | exact ⟨rfl, _, dd2⟩ | exact ⟨rfl, _, dd3⟩)) | (go_at_call 30; (with_reducible refine (spec_l1In.calls (l0_1.length : Int) 1 5 t424 _ A6.out).mono ?_); rintro e w' ⟨rfl, ⟨nd, rfl⟩⟩; (try first | exact ⟨rfl, _, dd2⟩ | exact ⟨rfl, _, dd3⟩))))
  go_meet
  case rel => exact ⟨_, (!t424), (by first | rfl | (simp; done) | (simp [*]; done)), H', ⟨by first | omega | exact Nat.le_refl _⟩, ⟨bkl BK422⟩, ⟨bel1 HB GE422⟩⟩
 clear HC2
 try clear p2
 try clear c5
 try clear c7
 try clear hcz7_0
 try clear hcz7_1
 try clear hcz8_0
 try clear hcz8_1
 try clear hfz7_0
 try clear hfz7_1
 try clear hfz8_0
 try clear hfz8_1
 obtain ⟨kq, x17_1, rfl, HA, HJ1, BK422, HB⟩ := hcut
 cases kq with
 | zero => exact absurd HA.out (by simp [spec_l9Good.j0])
 | succ kj1 =>
  have H := HA.out
  clear HA
  simp only [spec_l9Good.j0] at H
  by_cases c9 : x17_1 = true
  ·subst c9
   have H1 : (some false) = some r := by rw [if_pos rfl] at H; exact H
   clear H
   have H := H1
   clear H1
   obtain rfl := Option.some.inj H
   go_wp2
   repeat (go_quiet (fail); try go_wp2)
   go_ret
   exact ⟨by first | rfl | (simp [errW_none, errW_some] <;> rfl) | (simp [*, errW_none, errW_some] <;> rfl), bel1 HB GE422⟩
  replace c9 := Bool.eq_false_iff.mpr c9
  subst c9
  have H1 : (spec_l9Good.l0 kj1 (([] : List Int)) 0 a0_0 l0_1) = some r := by rw [if_neg (show ¬ (false = true) by decide)] at H; exact H
  clear H
  have H := H1
  clear H1
  obtain ⟨y425, hy425⟩ : ∃ y_ : List Int, y_ = (([] : List Int)) := ⟨_, rfl⟩
  replace H : (spec_l9Good.l0 kj1 y425 0 a0_0 l0_1) = some r := by first | (rw [hy425]; with_reducible exact H) | (have H2_ := (Option.bind_some _ _).symm.trans H; rw [hy425]; with_reducible exact H2_) | (have H2_ := (Option.bind_some _ _).symm.trans H; with_reducible exact H2_) | with_reducible exact H | (rw [hy425]; exact H) | exact H
  have Ny425 := Aside0.mk hy425
  clear hy425
  have H' := Aside0.mk H
  clear H
  go_wp2_with (first | ((with_reducible refine gate_dst (N := 18) rfl ?_); (try (refine gate_guard (by rfl) ?_; dsimp only)); refine Kd.R_lit (Kd.int .i64) _ 3 ?hg (N := 18) ?hd (xs := ([] : List Int)) (inner := []) (ok := fun _ => True) (okp := fun _ => True) ?hr ?hp (fun _ hk => hk) trivial (Below.refl _ _) (Nat.le_refl _) (by simp) ?_; (case hd => rfl); (case hg => rfl); (case hr => first | (go_simp; done) | (go_simp; rfl)); (case hp => exact (Reps.none _ _)); intro v426 w10 ho11 hb hg_ hnew_; clear hg_ hnew_; (first | rw [← Ny425.out] at ho11 | (simp only [Int.reduceToNat] at ho11; rw [← Ny425.out] at ho11)); have n0_ := Aside0.mk (Kd.R_lower ho11 (below_size (bel1 HB GE422))); have n1_ := Aside0.mk (blk_below (g := gb422) (o := .cells #[.int .i64 a0_0, .slice A0_1 l0_1.length c0_1] 45 (0, 0)) (bkl BK422) hb); have n2_ := Aside0.mk (below_step (bel1 HB GE422) hb); clear BK422; clear HB; have HO427 := n0_; have BK422 := n1_; have HB := n2_; clear n0_ n1_ n2_; clear hb ho11))
  repeat (go_quiet (first | ((with_reducible refine gate_dst (N := 18) rfl ?_); (try (refine gate_guard (by rfl) ?_; dsimp only)); refine Kd.R_lit (Kd.int .i64) _ 3 ?hg (N := 18) ?hd (xs := ([] : List Int)) (inner := []) (ok := fun _ => True) (okp := fun _ => True) ?hr ?hp (fun _ hk => hk) trivial (Below.refl _ _) (Nat.le_refl _) (by simp) ?_; (case hd => rfl); (case hg => rfl); (case hr => first | (go_simp; done) | (go_simp; rfl)); (case hp => exact (Reps.none _ _)); intro v426 w10 ho11 hb hg_ hnew_; clear hg_ hnew_; (first | rw [← Ny425.out] at ho11 | (simp only [Int.reduceToNat] at ho11; rw [← Ny425.out] at ho11)); have n0_ := Aside0.mk (Kd.R_lower ho11 (below_size (bel1 HB GE422))); have n1_ := Aside0.mk (blk_below (g := gb422) (o := .cells #[.int .i64 a0_0, .slice A0_1 l0_1.length c0_1] 45 (0, 0)) (bkl BK422) hb); have n2_ := Aside0.mk (below_step (bel1 HB GE422) hb); clear BK422; clear HB; have HO427 := n0_; have BK422 := n1_; have HB := n2_; clear n0_ n1_ n2_; clear hb ho11)); try go_wp2_with (first | ((with_reducible refine gate_dst (N := 18) rfl ?_); (try (refine gate_guard (by rfl) ?_; dsimp only)); refine Kd.R_lit (Kd.int .i64) _ 3 ?hg (N := 18) ?hd (xs := ([] : List Int)) (inner := []) (ok := fun _ => True) (okp := fun _ => True) ?hr ?hp (fun _ hk => hk) trivial (Below.refl _ _) (Nat.le_refl _) (by simp) ?_; (case hd => rfl); (case hg => rfl); (case hr => first | (go_simp; done) | (go_simp; rfl)); (case hp => exact (Reps.none _ _)); intro v426 w10 ho11 hb hg_ hnew_; clear hg_ hnew_; (first | rw [← Ny425.out] at ho11 | (simp only [Int.reduceToNat] at ho11; rw [← Ny425.out] at ho11)); have n0_ := Aside0.mk (Kd.R_lower ho11 (below_size (bel1 HB GE422))); have n1_ := Aside0.mk (blk_below (g := gb422) (o := .cells #[.int .i64 a0_0, .slice A0_1 l0_1.length c0_1] 45 (0, 0)) (bkl BK422) hb); have n2_ := Aside0.mk (below_step (bel1 HB GE422) hb); clear BK422; clear HB; have HO427 := n0_; have BK422 := n1_; have HB := n2_; clear n0_ n1_ n2_; clear hb ho11)))
  go_loopg [3, 4] kj1 (fun kq v3 v4 w' => ∃ (x3_2 : List Int) (x4_2 : Int), v4 = .int .i64 x4_2 ∧ Aside0 (spec_l9Good.l0 kq x3_2 x4_2 a0_0 l0_1 = some r) ∧ Aside0 (kq ≤ kj1) ∧ Aside0 (Kd.R (Kd.int .i64) 3 w' w.heap.size (fun _ => True) v3 x3_2) ∧ Aside0 (w'.heap[gb422]? = some (.cells #[.int .i64 a0_0, (.slice A0_1 l0_1.length c0_1)] 45 (0, 0))) ∧ Aside0 (Below w.heap.size w w'))
  case atStart => exact ⟨(y425), (0), (by first | rfl | (simp; done) | (simp [*]; done)), H', ⟨Nat.le_refl _⟩, ⟨rdl HO427⟩, ⟨bkl BK422⟩, ⟨bel1 HB GE422⟩⟩
  clear H'
  try clear p2
  try clear c5
  try clear c7
  try clear c9
  try clear hcz7_0
  try clear hcz7_1
  try clear hcz8_0
  try clear hcz8_1
  try clear hfz7_0
  try clear hfz7_1
  try clear hfz8_0
  try clear hfz8_1
  try clear p2
  obtain ⟨x3_2, x4_2, rfl, HA, HK2, HO_3, BK422, HB⟩ := hrel
  cases gk with
  | zero => exact absurd HA.out (by simp [spec_l9Good.l0])
  | succ k2 =>
   have H := HA.out
   clear HA
   simp only [spec_l9Good.l0] at H
   by_cases c12 : x4_2 < (l0_1.length : Int)
   rotate_left
   ·rw [if_neg c12] at H
    have c12b0 : decide (x4_2 < (l0_1.length : Int)) = false := decide_eq_false c12
    clear c12
    obtain rfl := Option.some.inj H
    have hcz33_0 : wr.cell? ⟨gb422, 0, none⟩ = some (.int .i64 a0_0) := (blk_cell BK422.out 0).trans rfl
    have hcz33_1 : wr.cell? ⟨gb422, 1, none⟩ = some (.slice A0_1 l0_1.length c0_1) := (blk_cell BK422.out 1).trans rfl
    have hfz33_0 := blk_frozen BK422.out 0
    have hfz33_1 := blk_frozen BK422.out 1
    go_wp2
    repeat (go_quiet (fail); try go_wp2)
    go_ret
    exact ⟨by first | rfl | (simp [errW_none, errW_some] <;> rfl) | (simp [*, errW_none, errW_some] <;> rfl), bel1 HB GE422⟩
   rw [if_pos c12] at H
   have c12b0 : decide (x4_2 < (l0_1.length : Int)) = true := decide_eq_true c12
   clear c12
   by_cases c13 : 0 ≤ x4_2
   rotate_left
   ·rw [if_neg c13] at H
    exact absurd H (by simp)
   rw [if_pos c13] at H
   have c13b0 : decide (0 ≤ x4_2) = true := decide_eq_true c13
   clear c13
   by_cases c14 : ((rd_L2 l0_1 x4_2).length : Int) > a0_0
   ·rw [if_pos c14] at H
    have c14b0 : decide (a0_0 < ((rd_L2 l0_1 x4_2).length : Int)) = true := decide_eq_true c14
    clear c14
    obtain rfl := Option.some.inj H
    have hcz15_0 : wr.cell? ⟨gb422, 0, none⟩ = some (.int .i64 a0_0) := (blk_cell BK422.out 0).trans rfl
    have hcz15_1 : wr.cell? ⟨gb422, 1, none⟩ = some (.slice A0_1 l0_1.length c0_1) := (blk_cell BK422.out 1).trans rfl
    have hfz15_0 := blk_frozen BK422.out 0
    have hfz15_1 := blk_frozen BK422.out 1
    have p428 : 0 ≤ (x4_2 : Int) := oda
    have q428 : x4_2 < (l0_1.length : Int) := oda
    obtain ⟨ad428, A428_0, c428_0, e428, hx428_0, hl428_0, hi428_0⟩ := at_L2 HR0_1.out x4_2 p428 q428
    cases e428
    replace hx428_0 := cel HB hx428_0
    have HR428_0 := Aside0.mk hi428_0
    have HC428_0 := Aside0.mk hl428_0
    clear hi428_0 hl428_0
    replace p428 := eq_true p428
    replace q428 := eq_true q428
    go_wp2
    repeat (go_quiet (fail); try go_wp2)
    go_ret
    exact ⟨by first | rfl | (simp [errW_none, errW_some] <;> rfl) | (simp [*, errW_none, errW_some] <;> rfl), bel1 HB GE422⟩
   rw [if_neg c14] at H
   have c14b0 : decide (a0_0 < ((rd_L2 l0_1 x4_2).length : Int)) = false := decide_eq_false c14
   clear c14
   have H' := Aside0.mk H
   clear H
   have hcz16_0 : wr.cell? ⟨gb422, 0, none⟩ = some (.int .i64 a0_0) := (blk_cell BK422.out 0).trans rfl
   have hcz16_1 : wr.cell? ⟨gb422, 1, none⟩ = some (.slice A0_1 l0_1.length c0_1) := (blk_cell BK422.out 1).trans rfl
   have hfz16_0 := blk_frozen BK422.out 0
   have hfz16_1 := blk_frozen BK422.out 1
   have p428 : 0 ≤ (x4_2 : Int) := oda
   have q428 : x4_2 < (l0_1.length : Int) := oda
   obtain ⟨ad428, A428_0, c428_0, e428, hx428_0, hl428_0, hi428_0⟩ := at_L2 HR0_1.out x4_2 p428 q428
   cases e428
   replace hx428_0 := cel HB hx428_0
   have HR428_0 := Aside0.mk hi428_0
   have HC428_0 := Aside0.mk hl428_0
   clear hi428_0 hl428_0
   replace p428 := eq_true p428
   replace q428 := eq_true q428
   go_wp2
   repeat (go_quiet (fail); try go_wp2)
   go_loopg [3, 5] k2 (fun kq v3 v5 w' => ∃ (x3_3 : List Int) (x5_3 : Int), v5 = .int .i64 x5_3 ∧ Aside0 (spec_l9Good.l1 kq x3_3 x4_2 x5_3 a0_0 l0_1 = some r) ∧ Aside0 (kq ≤ k2) ∧ Aside0 (Kd.R (Kd.int .i64) 3 w' w.heap.size (fun _ => True) v3 x3_3) ∧ Aside0 (w'.heap[gb422]? = some (.cells #[.int .i64 a0_0, (.slice (some ad428) l0_1.length c0_1)] 45 (0, 0))) ∧ Aside0 (Below w.heap.size w w'))
   case atStart => exact ⟨(x3_2), (0), (by first | rfl | (simp; done) | (simp [*]; done)), H', ⟨Nat.le_refl _⟩, ⟨rdl HO_3⟩, ⟨bkl BK422⟩, ⟨bel1 HB GE422⟩⟩
   clear H'
   try clear c1
   try clear p2
   try clear c4
   try clear p4
   try clear q4
   try clear hx4
   try clear c5
   try clear c7
   try clear c9
   try clear c12
   try clear c12b0
   try clear c13
   try clear c13b0
   try clear c14
   try clear c14b0
   try clear hcz15_0
   try clear hcz15_1
   try clear hcz16_0
   try clear hcz16_1
   try clear hcz7_0
   try clear hcz7_1
   try clear hcz8_0
   try clear hcz8_1
   try clear hfz15_0
   try clear hfz15_1
   try clear hfz16_0
   try clear hfz16_1
   try clear hfz7_0
   try clear hfz7_1
   try clear hfz8_0
   try clear hfz8_1
   try clear hx428_0
   try clear p2
   try clear p428
   try clear q428
   obtain ⟨x3_3, x5_3, rfl, HA, HK3, HO_3, BK422, HB⟩ := hrel
   cases gk with
   | zero => exact absurd HA.out (by simp [spec_l9Good.l1])
   | succ k3 =>
    have H := HA.out
    clear HA
    simp only [spec_l9Good.l1] at H
    by_cases c17 : 0 ≤ x4_2
    rotate_left
    ·rw [if_neg c17] at H
     exact absurd H (by simp)
    rw [if_pos c17] at H
    have c17b0 : decide (0 ≤ x4_2) = true := decide_eq_true c17
    clear c17
    by_cases c18 : x4_2 < (l0_1.length : Int)
    rotate_left
    ·rw [if_neg c18] at H
     exact absurd H (by simp)
    rw [if_pos c18] at H
    have c18b0 : decide (x4_2 < (l0_1.length : Int)) = true := decide_eq_true c18
    clear c18
    by_cases c19 : x5_3 < ((rd_L2 l0_1 x4_2).length : Int)
    rotate_left
    ·rw [if_neg c19] at H
     have c19b0 : decide (x5_3 < ((rd_L2 l0_1 x4_2).length : Int)) = false := decide_eq_false c19
     clear c19
     have H' := Aside0.mk H
     clear H
     have hcz32_0 : wr.cell? ⟨gb422, 0, none⟩ = some (.int .i64 a0_0) := (blk_cell BK422.out 0).trans rfl
     have hcz32_1 : wr.cell? ⟨gb422, 1, none⟩ = some (.slice (some ad428) l0_1.length c0_1) := (blk_cell BK422.out 1).trans rfl
     have hfz32_0 := blk_frozen BK422.out 0
     have hfz32_1 := blk_frozen BK422.out 1
     have p429 : 0 ≤ (x4_2 : Int) := oda
     have q429 : x4_2 < (l0_1.length : Int) := oda
     obtain ⟨ad429, A429_0, c429_0, e429, hx429_0, hl429_0, hi429_0⟩ := at_L2 HR0_1.out x4_2 p429 q429
     obtain rfl : ad428 = ad429 := (by injection e429)
     replace hx429_0 := cel HB hx429_0
     have HR429_0 := Aside0.mk hi429_0
     have HC429_0 := Aside0.mk hl429_0
     clear hi429_0 hl429_0
     replace p429 := eq_true p429
     replace q429 := eq_true q429
     go_wp2
     repeat (go_quiet (fail); try go_wp2)
     go_roundg k3
     case measure => have := HJ1.out; have := HK2.out; have := HK3.out; omega
     case rel => exact ⟨(x3_3), (wrap64 (x4_2 + 1)), (by first | rfl | (simp; done) | (simp [*]; done)), H', ⟨by have := HJ1.out; have := HK2.out; have := HK3.out; omega⟩, ⟨rdl HO_3⟩, ⟨bkl BK422⟩, ⟨bel1 HB GE422⟩⟩
    rw [if_pos c19] at H
    have c19b0 : decide (x5_3 < ((rd_L2 l0_1 x4_2).length : Int)) = true := decide_eq_true c19
    clear c19
    by_cases c20 : 0 ≤ x5_3
    rotate_left
    ·rw [if_neg c20] at H
     exact absurd H (by simp)
    rw [if_pos c20] at H
    have c20b0 : decide (0 ≤ x5_3) = true := decide_eq_true c20
    clear c20
    replace H := Option.bind_eq_some_iff.mp H
    obtain ⟨t432, A210, H⟩ := H
    replace H : (if t432 = true then ((spec_l1Has.f k3 x3_3 (rd (rd_L2 l0_1 x4_2) x5_3)).bind fun t433 => (if t433 = true then (some false) else (if x3_3.length < 17592186044416 then (spec_l9Good.l1 k3 (x3_3 ++ [rd (rd_L2 l0_1 x4_2) x5_3]) x4_2 (wrap64 (x5_3 + 1)) a0_0 l0_1) else (none)))) else (some false)) = some r := H
    have A21 := Aside0.mk A210
    clear A210
    by_cases c22 : t432 = true
    rotate_left
    ·replace c22 := Bool.eq_false_iff.mpr c22
     subst c22
     have H1 : (some false) = some r := by rw [if_neg (show ¬ (false = true) by decide)] at H; exact H
     clear H
     have H := H1
     clear H1
     obtain rfl := Option.some.inj H
     have hcz31_0 : wr.cell? ⟨gb422, 0, none⟩ = some (.int .i64 a0_0) := (blk_cell BK422.out 0).trans rfl
     have hcz31_1 : wr.cell? ⟨gb422, 1, none⟩ = some (.slice (some ad428) l0_1.length c0_1) := (blk_cell BK422.out 1).trans rfl
     have hfz31_0 := blk_frozen BK422.out 0
     have hfz31_1 := blk_frozen BK422.out 1
     have p429 : 0 ≤ (x4_2 : Int) := oda
     have q429 : x4_2 < (l0_1.length : Int) := oda
     obtain ⟨ad429, A429_0, c429_0, e429, hx429_0, hl429_0, hi429_0⟩ := at_L2 HR0_1.out x4_2 p429 q429
     obtain rfl : ad428 = ad429 := (by injection e429)
     replace hx429_0 := cel HB hx429_0
     have HR429_0 := Aside0.mk hi429_0
     have HC429_0 := Aside0.mk hl429_0
     clear hi429_0 hl429_0
     replace p429 := eq_true p429
     replace q429 := eq_true q429
     have p430 : 0 ≤ (x4_2 : Int) := oda
     have q430 : x4_2 < (l0_1.length : Int) := oda
     obtain ⟨ad430, A430_0, c430_0, e430, hx430_0, hl430_0, hi430_0⟩ := at_L2 HR0_1.out x4_2 p430 q430
     obtain rfl : ad428 = ad430 := (by injection e430)
     replace hx430_0 := cel HB hx430_0
     have HR430_0 := Aside0.mk hi430_0
     have HC430_0 := Aside0.mk hl430_0
     clear hi430_0 hl430_0
     replace p430 := eq_true p430
     replace q430 := eq_true q430
     have ea_ := Option.some.inj (hx429_0.symm.trans hx430_0)
     injection ea_ with ea_ en_ ec_
     subst ea_
     subst ec_
     clear en_
     have p431 : 0 ≤ (x5_3 : Int) := oda
     have q431 : x5_3 < ((rd_L2 l0_1 x4_2).length : Int) := oda
     obtain ⟨ad431, e431, hx431_0⟩ := Kd.at_int HR430_0.out x5_3 p431 q431
     cases e431
     replace hx431_0 := cel HB hx431_0
     replace p431 := eq_true p431
     replace q431 := eq_true q431
     go_wp2_with (first | (go_at_call 30; (with_reducible refine (spec_l1In.calls (rd (rd_L2 l0_1 x4_2) x5_3) 1 99 false _ A21.out).mono ?_); rintro e w' ⟨rfl, ⟨nd, rfl⟩⟩; (try first | exact ⟨rfl, _, dd2⟩ | exact ⟨rfl, _, dd3⟩)))
     repeat (go_quiet (first | (go_at_call 30; (with_reducible refine (spec_l1In.calls (rd (rd_L2 l0_1 x4_2) x5_3) 1 99 false _ A21.out).mono ?_); rintro e w' ⟨rfl, ⟨nd, rfl⟩⟩; (try first | exact ⟨rfl, _, dd2⟩ | exact ⟨rfl, _, dd3⟩))); try go_wp2_with (first | (go_at_call 30; (with_reducible refine (spec_l1In.calls (rd (rd_L2 l0_1 x4_2) x5_3) 1 99 false _ A21.out).mono ?_); rintro e w' ⟨rfl, ⟨nd, rfl⟩⟩; (try first | exact ⟨rfl, _, dd2⟩ | exact ⟨rfl, _, dd3⟩))))
     go_ret
     exact ⟨by first | rfl | (simp [errW_none, errW_some] <;> rfl) | (simp [*, errW_none, errW_some] <;> rfl), bel1 HB GE422⟩
    subst c22
    have H1 : ((spec_l1Has.f k3 x3_3 (rd (rd_L2 l0_1 x4_2) x5_3)).bind fun t433 => (if t433 = true then (some false) else (if x3_3.length < 17592186044416 then (spec_l9Good.l1 k3 (x3_3 ++ [rd (rd_L2 l0_1 x4_2) x5_3]) x4_2 (wrap64 (x5_3 + 1)) a0_0 l0_1) else (none)))) = some r := by rw [if_pos rfl] at H; exact H
    clear H
    have H := H1
    clear H1
    replace H := Option.bind_eq_some_iff.mp H
    obtain ⟨t433, A230, H⟩ := H
    replace H : (if t433 = true then (some false) else (if x3_3.length < 17592186044416 then (spec_l9Good.l1 k3 (x3_3 ++ [rd (rd_L2 l0_1 x4_2) x5_3]) x4_2 (wrap64 (x5_3 + 1)) a0_0 l0_1) else (none))) = some r := H
    have A23 := Aside0.mk A230
    clear A230
    by_cases c24 : t433 = true
    ·subst c24
     have H1 : (some false) = some r := by rw [if_pos rfl] at H; exact H
     clear H
     have H := H1
     clear H1
     obtain rfl := Option.some.inj H
     have hcz25_0 : wr.cell? ⟨gb422, 0, none⟩ = some (.int .i64 a0_0) := (blk_cell BK422.out 0).trans rfl
     have hcz25_1 : wr.cell? ⟨gb422, 1, none⟩ = some (.slice (some ad428) l0_1.length c0_1) := (blk_cell BK422.out 1).trans rfl
     have hfz25_0 := blk_frozen BK422.out 0
     have hfz25_1 := blk_frozen BK422.out 1
     have p429 : 0 ≤ (x4_2 : Int) := oda
     have q429 : x4_2 < (l0_1.length : Int) := oda
     obtain ⟨ad429, A429_0, c429_0, e429, hx429_0, hl429_0, hi429_0⟩ := at_L2 HR0_1.out x4_2 p429 q429
     obtain rfl : ad428 = ad429 := (by injection e429)
     replace hx429_0 := cel HB hx429_0
     have HR429_0 := Aside0.mk hi429_0
     have HC429_0 := Aside0.mk hl429_0
     clear hi429_0 hl429_0
     replace p429 := eq_true p429
     replace q429 := eq_true q429
     have p430 : 0 ≤ (x4_2 : Int) := oda
     have q430 : x4_2 < (l0_1.length : Int) := oda
     obtain ⟨ad430, A430_0, c430_0, e430, hx430_0, hl430_0, hi430_0⟩ := at_L2 HR0_1.out x4_2 p430 q430
     obtain rfl : ad428 = ad430 := (by injection e430)
     replace hx430_0 := cel HB hx430_0
     have HR430_0 := Aside0.mk hi430_0
     have HC430_0 := Aside0.mk hl430_0
     clear hi430_0 hl430_0
     replace p430 := eq_true p430
     replace q430 := eq_true q430
     have ea_ := Option.some.inj (hx429_0.symm.trans hx430_0)
     injection ea_ with ea_ en_ ec_
     subst ea_
     subst ec_
     clear en_
     have p431 : 0 ≤ (x5_3 : Int) := oda
     have q431 : x5_3 < ((rd_L2 l0_1 x4_2).length : Int) := oda
     obtain ⟨ad431, e431, hx431_0⟩ := Kd.at_int HR430_0.out x5_3 p431 q431
     cases e431
     replace hx431_0 := cel HB hx431_0
     replace p431 := eq_true p431
     replace q431 := eq_true q431
     go_wp2_with (first | (go_at_call 30; (with_reducible refine (spec_l1In.calls (rd (rd_L2 l0_1 x4_2) x5_3) 1 99 true _ A21.out).mono ?_); rintro e w' ⟨rfl, ⟨nd, rfl⟩⟩; (try first | exact ⟨rfl, _, dd2⟩ | exact ⟨rfl, _, dd3⟩); obtain ⟨Ao26, co26, eo26⟩ := Kd.R_slice HO_3.out; subst eo26) | (go_at_call 85; (with_reducible refine (spec_l1Has.calls k3 _ _ x3_3 (rd (rd_L2 l0_1 x4_2) x5_3) true _ ?side1 ?side2 A23.out).mono ?_); (case side1 => exact cdl (Kd.R_reads' HO_3.out).2.2); (case side2 => exact (Kd.R_reads' HO_3.out).2.1); rintro e w' ⟨rfl, ⟨nd, rfl⟩⟩; (try first | exact ⟨rfl, _, dd2⟩ | exact ⟨rfl, _, dd3⟩)))
     repeat (go_quiet (first | (go_at_call 30; (with_reducible refine (spec_l1In.calls (rd (rd_L2 l0_1 x4_2) x5_3) 1 99 true _ A21.out).mono ?_); rintro e w' ⟨rfl, ⟨nd, rfl⟩⟩; (try first | exact ⟨rfl, _, dd2⟩ | exact ⟨rfl, _, dd3⟩); obtain ⟨Ao26, co26, eo26⟩ := Kd.R_slice HO_3.out; subst eo26) | (go_at_call 85; (with_reducible refine (spec_l1Has.calls k3 _ _ x3_3 (rd (rd_L2 l0_1 x4_2) x5_3) true _ ?side1 ?side2 A23.out).mono ?_); (case side1 => exact cdl (Kd.R_reads' HO_3.out).2.2); (case side2 => exact (Kd.R_reads' HO_3.out).2.1); rintro e w' ⟨rfl, ⟨nd, rfl⟩⟩; (try first | exact ⟨rfl, _, dd2⟩ | exact ⟨rfl, _, dd3⟩))); try go_wp2_with (first | (go_at_call 30; (with_reducible refine (spec_l1In.calls (rd (rd_L2 l0_1 x4_2) x5_3) 1 99 true _ A21.out).mono ?_); rintro e w' ⟨rfl, ⟨nd, rfl⟩⟩; (try first | exact ⟨rfl, _, dd2⟩ | exact ⟨rfl, _, dd3⟩); obtain ⟨Ao26, co26, eo26⟩ := Kd.R_slice HO_3.out; subst eo26) | (go_at_call 85; (with_reducible refine (spec_l1Has.calls k3 _ _ x3_3 (rd (rd_L2 l0_1 x4_2) x5_3) true _ ?side1 ?side2 A23.out).mono ?_); (case side1 => exact cdl (Kd.R_reads' HO_3.out).2.2); (case side2 => exact (Kd.R_reads' HO_3.out).2.1); rintro e w' ⟨rfl, ⟨nd, rfl⟩⟩; (try first | exact ⟨rfl, _, dd2⟩ | exact ⟨rfl, _, dd3⟩))))
     go_ret
     exact ⟨by first | rfl | (simp [errW_none, errW_some] <;> rfl) | (simp [*, errW_none, errW_some] <;> rfl), bel1 HB GE422⟩
    replace c24 := Bool.eq_false_iff.mpr c24
    subst c24
    have H1 : (if x3_3.length < 17592186044416 then (spec_l9Good.l1 k3 (x3_3 ++ [rd (rd_L2 l0_1 x4_2) x5_3]) x4_2 (wrap64 (x5_3 + 1)) a0_0 l0_1) else (none)) = some r := by rw [if_neg (show ¬ (false = true) by decide)] at H; exact H
    clear H
    have H := H1
    clear H1
    by_cases c27 : x3_3.length < 17592186044416
    rotate_left
    ·rw [if_neg c27] at H
     exact absurd H (by simp)
    rw [if_pos c27] at H
    have LMc27 := Aside0.mk c27
    clear c27
    obtain ⟨y434, hy434⟩ : ∃ y_ : List Int, y_ = (x3_3 ++ [rd (rd_L2 l0_1 x4_2) x5_3]) := ⟨_, rfl⟩
    replace H : (spec_l9Good.l1 k3 y434 x4_2 (wrap64 (x5_3 + 1)) a0_0 l0_1) = some r := by first | (rw [hy434]; with_reducible exact H) | (have H2_ := (Option.bind_some _ _).symm.trans H; rw [hy434]; with_reducible exact H2_) | (have H2_ := (Option.bind_some _ _).symm.trans H; with_reducible exact H2_) | with_reducible exact H | (rw [hy434]; exact H) | exact H
    have Ny434 := Aside0.mk hy434
    clear hy434
    have H' := Aside0.mk H
    clear H
    have hcz28_0 : wr.cell? ⟨gb422, 0, none⟩ = some (.int .i64 a0_0) := (blk_cell BK422.out 0).trans rfl
    have hcz28_1 : wr.cell? ⟨gb422, 1, none⟩ = some (.slice (some ad428) l0_1.length c0_1) := (blk_cell BK422.out 1).trans rfl
    have hfz28_0 := blk_frozen BK422.out 0
    have hfz28_1 := blk_frozen BK422.out 1
    have p429 : 0 ≤ (x4_2 : Int) := oda
    have q429 : x4_2 < (l0_1.length : Int) := oda
    obtain ⟨ad429, A429_0, c429_0, e429, hx429_0, hl429_0, hi429_0⟩ := at_L2 HR0_1.out x4_2 p429 q429
    obtain rfl : ad428 = ad429 := (by injection e429)
    replace hx429_0 := cel HB hx429_0
    have HR429_0 := Aside0.mk hi429_0
    have HC429_0 := Aside0.mk hl429_0
    clear hi429_0 hl429_0
    replace p429 := eq_true p429
    replace q429 := eq_true q429
    have p430 : 0 ≤ (x4_2 : Int) := oda
    have q430 : x4_2 < (l0_1.length : Int) := oda
    obtain ⟨ad430, A430_0, c430_0, e430, hx430_0, hl430_0, hi430_0⟩ := at_L2 HR0_1.out x4_2 p430 q430
    obtain rfl : ad428 = ad430 := (by injection e430)
    replace hx430_0 := cel HB hx430_0
    have HR430_0 := Aside0.mk hi430_0
    have HC430_0 := Aside0.mk hl430_0
    clear hi430_0 hl430_0
    replace p430 := eq_true p430
    replace q430 := eq_true q430
    have ea_ := Option.some.inj (hx429_0.symm.trans hx430_0)
    injection ea_ with ea_ en_ ec_
    subst ea_
    subst ec_
    clear en_
    have p431 : 0 ≤ (x5_3 : Int) := oda
    have q431 : x5_3 < ((rd_L2 l0_1 x4_2).length : Int) := oda
    obtain ⟨ad431, e431, hx431_0⟩ := Kd.at_int HR430_0.out x5_3 p431 q431
    cases e431
    replace hx431_0 := cel HB hx431_0
    replace p431 := eq_true p431
    replace q431 := eq_true q431
    go_wp2_with (first | (go_at_call 30; (with_reducible refine (spec_l1In.calls (rd (rd_L2 l0_1 x4_2) x5_3) 1 99 true _ A21.out).mono ?_); rintro e w' ⟨rfl, ⟨nd, rfl⟩⟩; (try first | exact ⟨rfl, _, dd2⟩ | exact ⟨rfl, _, dd3⟩); obtain ⟨Ao29, co29, eo29⟩ := Kd.R_slice HO_3.out; subst eo29) | (go_at_call 85; (with_reducible refine (spec_l1Has.calls k3 _ _ x3_3 (rd (rd_L2 l0_1 x4_2) x5_3) false _ ?side1 ?side2 A23.out).mono ?_); (case side1 => exact cdl (Kd.R_reads' HO_3.out).2.2); (case side2 => exact (Kd.R_reads' HO_3.out).2.1); rintro e w' ⟨rfl, ⟨nd, rfl⟩⟩; (try first | exact ⟨rfl, _, dd2⟩ | exact ⟨rfl, _, dd3⟩)) | ((with_reducible refine gate_builtin (b := .append) (xs := #[.tmp 61, .tmp 63]) rfl ?_); (try (refine gate_guard (by rfl) ?_; dsimp only)); at_builtin; refine Kd.R_append (Kd.int .i64) (w0 := w) w.heap.size rfl (.tmp 61) (.tmp 63) 24 3 (.int .i64 0) 8 rfl Try.underlying24 info3 rfl (by decide) (by omega) (.slice Ao29 x3_3.length co29) x3_3 (rd (rd_L2 l0_1 x4_2) x5_3) [.int .i64 (rd (rd_L2 l0_1 x4_2) x5_3)] (fun _ => True) (fun _ => False) rfl rfl ?aP (fun _ hk => hk.elim) ?aF ?aO ?aB ?aS ?aL ?_; (case aP => exact rfl); (case aB => exact (bel1 HB GE422)); (case aF => exact (fun _ _ => trivial)); (case aO => exact (rdl HO_3)); (case aS => exact (below_size (bel1 HB GE422))); (case aL => have := LMc27.out; omega); intro v435 w30 ho hb hg hat; rw [← Ny434.out] at ho; have n0_ := Aside0.mk (blk_grown (g := gb422) (o := .cells #[.int .i64 a0_0, .slice (some ad428) l0_1.length c0_1] 45 (0, 0)) (bkl BK422) hg (Kd.R_ne HO_3.out BK422.out (by decide))); have n1_ := Aside0.mk (hb); have n2_ := Aside0.mk (ho); clear BK422; clear HB; clear HO_3; have BK422 := n0_; have HB := n1_; have HO436 := n2_; clear n0_ n1_ n2_; clear ho hb hg hat))
    repeat (go_quiet (first | (go_at_call 30; (with_reducible refine (spec_l1In.calls (rd (rd_L2 l0_1 x4_2) x5_3) 1 99 true _ A21.out).mono ?_); rintro e w' ⟨rfl, ⟨nd, rfl⟩⟩; (try first | exact ⟨rfl, _, dd2⟩ | exact ⟨rfl, _, dd3⟩); obtain ⟨Ao29, co29, eo29⟩ := Kd.R_slice HO_3.out; subst eo29) | (go_at_call 85; (with_reducible refine (spec_l1Has.calls k3 _ _ x3_3 (rd (rd_L2 l0_1 x4_2) x5_3) false _ ?side1 ?side2 A23.out).mono ?_); (case side1 => exact cdl (Kd.R_reads' HO_3.out).2.2); (case side2 => exact (Kd.R_reads' HO_3.out).2.1); rintro e w' ⟨rfl, ⟨nd, rfl⟩⟩; (try first | exact ⟨rfl, _, dd2⟩ | exact ⟨rfl, _, dd3⟩)) | ((with_reducible refine gate_builtin (b := .append) (xs := #[.tmp 61, .tmp 63]) rfl ?_); (try (refine gate_guard (by rfl) ?_; dsimp only)); at_builtin; refine Kd.R_append (Kd.int .i64) (w0 := w) w.heap.size rfl (.tmp 61) (.tmp 63) 24 3 (.int .i64 0) 8 rfl Try.underlying24 info3 rfl (by decide) (by omega) (.slice Ao29 x3_3.length co29) x3_3 (rd (rd_L2 l0_1 x4_2) x5_3) [.int .i64 (rd (rd_L2 l0_1 x4_2) x5_3)] (fun _ => True) (fun _ => False) rfl rfl ?aP (fun _ hk => hk.elim) ?aF ?aO ?aB ?aS ?aL ?_; (case aP => exact rfl); (case aB => exact (bel1 HB GE422)); (case aF => exact (fun _ _ => trivial)); (case aO => exact (rdl HO_3)); (case aS => exact (below_size (bel1 HB GE422))); (case aL => have := LMc27.out; omega); intro v435 w30 ho hb hg hat; rw [← Ny434.out] at ho; have n0_ := Aside0.mk (blk_grown (g := gb422) (o := .cells #[.int .i64 a0_0, .slice (some ad428) l0_1.length c0_1] 45 (0, 0)) (bkl BK422) hg (Kd.R_ne HO_3.out BK422.out (by decide))); have n1_ := Aside0.mk (hb); have n2_ := Aside0.mk (ho); clear BK422; clear HB; clear HO_3; have BK422 := n0_; have HB := n1_; have HO436 := n2_; clear n0_ n1_ n2_; clear ho hb hg hat)); try go_wp2_with (first | (go_at_call 30; (with_reducible refine (spec_l1In.calls (rd (rd_L2 l0_1 x4_2) x5_3) 1 99 true _ A21.out).mono ?_); rintro e w' ⟨rfl, ⟨nd, rfl⟩⟩; (try first | exact ⟨rfl, _, dd2⟩ | exact ⟨rfl, _, dd3⟩); obtain ⟨Ao29, co29, eo29⟩ := Kd.R_slice HO_3.out; subst eo29) | (go_at_call 85; (with_reducible refine (spec_l1Has.calls k3 _ _ x3_3 (rd (rd_L2 l0_1 x4_2) x5_3) false _ ?side1 ?side2 A23.out).mono ?_); (case side1 => exact cdl (Kd.R_reads' HO_3.out).2.2); (case side2 => exact (Kd.R_reads' HO_3.out).2.1); rintro e w' ⟨rfl, ⟨nd, rfl⟩⟩; (try first | exact ⟨rfl, _, dd2⟩ | exact ⟨rfl, _, dd3⟩)) | ((with_reducible refine gate_builtin (b := .append) (xs := #[.tmp 61, .tmp 63]) rfl ?_); (try (refine gate_guard (by rfl) ?_; dsimp only)); at_builtin; refine Kd.R_append (Kd.int .i64) (w0 := w) w.heap.size rfl (.tmp 61) (.tmp 63) 24 3 (.int .i64 0) 8 rfl Try.underlying24 info3 rfl (by decide) (by omega) (.slice Ao29 x3_3.length co29) x3_3 (rd (rd_L2 l0_1 x4_2) x5_3) [.int .i64 (rd (rd_L2 l0_1 x4_2) x5_3)] (fun _ => True) (fun _ => False) rfl rfl ?aP (fun _ hk => hk.elim) ?aF ?aO ?aB ?aS ?aL ?_; (case aP => exact rfl); (case aB => exact (bel1 HB GE422)); (case aF => exact (fun _ _ => trivial)); (case aO => exact (rdl HO_3)); (case aS => exact (below_size (bel1 HB GE422))); (case aL => have := LMc27.out; omega); intro v435 w30 ho hb hg hat; rw [← Ny434.out] at ho; have n0_ := Aside0.mk (blk_grown (g := gb422) (o := .cells #[.int .i64 a0_0, .slice (some ad428) l0_1.length c0_1] 45 (0, 0)) (bkl BK422) hg (Kd.R_ne HO_3.out BK422.out (by decide))); have n1_ := Aside0.mk (hb); have n2_ := Aside0.mk (ho); clear BK422; clear HB; clear HO_3; have BK422 := n0_; have HB := n1_; have HO436 := n2_; clear n0_ n1_ n2_; clear ho hb hg hat)))
    go_roundg k3
    case measure => have := HJ1.out; have := HK2.out; have := HK3.out; omega
    case rel => exact ⟨(y434), (wrap64 (x5_3 + 1)), (by first | rfl | (simp; done) | (simp [*]; done)), H', ⟨by have := HJ1.out; have := HK2.out; have := HK3.out; omega⟩, ⟨rdl HO436⟩, ⟨bkl BK422⟩, ⟨bel1 HB GE422⟩⟩
/-! ### spec_l10Plan: function 57 -/
def spec_l10Plan.l0 : Nat → List Int → Int → Int → Int → List Int → Option (Bool)
 | 0, _, _, _, _, _ => none
 | k + 1, x1, x5, x438000, x438001, x438002 => if x5 < (x1.length : Int) then (if 0 ≤ x5 then ((spec_l1In.f (rd x1 x5) 0 (wrap64 (x438000 - 1))).bind fun t439 => (if t439 = true then (spec_l10Plan.l0 k x1 (wrap64 (x5 + 1)) x438000 x438001 x438002) else (some false))) else (none)) else (if (x1.length : Int) = (x438002.length : Int) then ((spec_l10Bay.f k x438000 x438001 x438002 x1).bind fun bt440 => ((spec_l9Good.f k bt440.1 bt440.2).bind fun t444 => (some t444))) else (some false))
def spec_l10Plan.f (k : Nat) (a0_0 : Int) (a0_1 : Int) (l0_2 : List Int) (l1 : List Int) : Option (Bool) := spec_l10Plan.l0 k l1 0 a0_0 a0_1 l0_2
theorem spec_l10Plan.mono_l : ∀ k, (∀ y0 y1 y2 y3 y4, LeO (spec_l10Plan.l0 k y0 y1 y2 y3 y4) (spec_l10Plan.l0 (k + 1) y0 y1 y2 y3 y4))
 | 0 => fun _ _ _ _ _ r h => by simp [spec_l10Plan.l0] at h
 | k + 1 => by
  have ih0 := spec_l10Plan.mono_l k
  ·intro y0 y1 y2 y3 y4
   unfold spec_l10Plan.l0
   repeat' first
   | (with_reducible exact ih0 _ _ _ _ _)
   | (with_reducible exact spec_l10Bay.mono _ _ _ _ _)
   | (with_reducible exact spec_l9Good.mono _ _ _)
   | (with_reducible exact LeO.refl _)
   | (with_reducible exact LeO.none _)
   | (with_reducible refine LeO.ite ?_ ?_)
   | (with_reducible refine LeO.bind ?_ (fun _ => ?_))
   | exact ih0 _ _ _ _ _
   | exact spec_l10Bay.mono _ _ _ _ _
   | exact spec_l9Good.mono _ _ _
   | exact LeO.none _
   | refine LeO.ite ?_ ?_
   | refine LeO.bind ?_ (fun _ => ?_)
theorem spec_l10Plan.mono : ∀ a0 a1 a2 a3 k, LeO (spec_l10Plan.f k a0 a1 a2 a3) (spec_l10Plan.f (k + 1) a0 a1 a2 a3) := by
 intro a0 a1 a2 a3 k
 have ih0 := spec_l10Plan.mono_l k
 unfold spec_l10Plan.f
 repeat' first
   | (with_reducible exact ih0 _ _ _ _ _)
   | (with_reducible exact spec_l10Bay.mono _ _ _ _ _)
   | (with_reducible exact spec_l9Good.mono _ _ _)
   | (with_reducible exact LeO.refl _)
   | (with_reducible exact LeO.none _)
   | (with_reducible refine LeO.ite ?_ ?_)
   | (with_reducible refine LeO.bind ?_ (fun _ => ?_))
   | exact ih0 _ _ _ _ _
   | exact spec_l10Bay.mono _ _ _ _ _
   | exact spec_l9Good.mono _ _ _
   | exact LeO.none _
   | refine LeO.ite ?_ ?_
   | refine LeO.bind ?_ (fun _ => ?_)
set_option maxHeartbeats 8000000 in
set_option maxRecDepth 100000 in
theorem spec_l10Plan.calls (k : Nat) (a0_0 : Int) (a0_1 : Int) (A0_2 : Option Addr) (c0_2 : Nat) (l0_2 : List Int) (A1 : Option Addr) (c1 : Nat) (l1 : List Int) (r : Bool) (w : World) (hr0_2 : Kd.C (Kd.int .i64) w A0_2 l0_2.length l0_2) (hc0_2 : l0_2.length ≤ c0_2) (hr1 : Kd.C (Kd.int .i64) w A1 l1.length l1) (hc1 : l1.length ≤ c1) (h : spec_l10Plan.f k a0_0 a0_1 l0_2 l1 = some r) :
  Calls Try.prog 57 #[.agg #[.int .i64 a0_0, .int .i64 a0_1, .slice A0_2 l0_2.length c0_2], .slice A1 l1.length c1] w fun e w' => e = .returned (.bool r) ∧ Below w.heap.size w w' := by
 have hu26 := Try.underlying26
 have HR0_2 := Aside0.mk hr0_2
 have HC0_2 := Aside0.mk hc0_2
 clear hr0_2 hc0_2
 have HR1 := Aside0.mk hr1
 have HC1 := Aside0.mk hc1
 clear hr1 hc1
 have HB := Aside0.mk (Below.refl w.heap.size w)
 have H : (spec_l10Plan.l0 k l1 0 a0_0 a0_1 l0_2) = some r := h
 clear h
 have H' := Aside0.mk H
 clear H
 go_enter Try.func57, Try.ntmps57
 go_wp2_with (first | ((with_reducible refine gate_dst (N := 2) rfl ?_); refine box_event ?hg (N := 2) ?hd (cs := #[.int .i64 a0_0, .int .i64 a0_1, .slice A0_2 l0_2.length c0_2]) (t := 26) ?hr ?_; (case hd => rfl); (case hg => rfl); (case hr => first | (go_simp; done) | (go_simp; rfl)); intro gb437 hg w3 hbox hb; have n0_ := Aside0.mk (below_step (bel HB) hb); have n1_ := Aside0.mk (hbox); have n2_ := Aside0.mk ((by rw [hg]; exact (below_size (bel HB)) : w.heap.size ≤ gb437)); have n3_ := Aside0.mk ((by rw [hg]; exact (below_size (bel HB)) : w.heap.size ≤ gb437)); clear HB; have HB := n0_; have BK437 := n1_; have GW437 := n2_; have GE437 := n3_; clear n0_ n1_ n2_ n3_; clear hb hbox hg))
 repeat (go_quiet (first | ((with_reducible refine gate_dst (N := 2) rfl ?_); refine box_event ?hg (N := 2) ?hd (cs := #[.int .i64 a0_0, .int .i64 a0_1, .slice A0_2 l0_2.length c0_2]) (t := 26) ?hr ?_; (case hd => rfl); (case hg => rfl); (case hr => first | (go_simp; done) | (go_simp; rfl)); intro gb437 hg w3 hbox hb; have n0_ := Aside0.mk (below_step (bel HB) hb); have n1_ := Aside0.mk (hbox); have n2_ := Aside0.mk ((by rw [hg]; exact (below_size (bel HB)) : w.heap.size ≤ gb437)); have n3_ := Aside0.mk ((by rw [hg]; exact (below_size (bel HB)) : w.heap.size ≤ gb437)); clear HB; have HB := n0_; have BK437 := n1_; have GW437 := n2_; have GE437 := n3_; clear n0_ n1_ n2_ n3_; clear hb hbox hg)); try go_wp2_with (first | ((with_reducible refine gate_dst (N := 2) rfl ?_); refine box_event ?hg (N := 2) ?hd (cs := #[.int .i64 a0_0, .int .i64 a0_1, .slice A0_2 l0_2.length c0_2]) (t := 26) ?hr ?_; (case hd => rfl); (case hg => rfl); (case hr => first | (go_simp; done) | (go_simp; rfl)); intro gb437 hg w3 hbox hb; have n0_ := Aside0.mk (below_step (bel HB) hb); have n1_ := Aside0.mk (hbox); have n2_ := Aside0.mk ((by rw [hg]; exact (below_size (bel HB)) : w.heap.size ≤ gb437)); have n3_ := Aside0.mk ((by rw [hg]; exact (below_size (bel HB)) : w.heap.size ≤ gb437)); clear HB; have HB := n0_; have BK437 := n1_; have GW437 := n2_; have GE437 := n3_; clear n0_ n1_ n2_ n3_; clear hb hbox hg)))
 go_loopg [5] k (fun kq v5 w' => ∃ (x5_1 : Int), v5 = .int .i64 x5_1 ∧ Aside0 (spec_l10Plan.l0 kq l1 x5_1 a0_0 a0_1 l0_2 = some r) ∧ Aside0 (kq ≤ k) ∧ Aside0 (w'.heap[gb437]? = some (.cells #[.int .i64 a0_0, .int .i64 a0_1, (.slice A0_2 l0_2.length c0_2)] 26 (0, 0))) ∧ Aside0 (Below w.heap.size w w'))
 case atStart => exact ⟨(0), (by first | rfl | (simp; done) | (simp [*]; done)), H', ⟨Nat.le_refl _⟩, ⟨bkl BK437⟩, ⟨bel1 HB GE437⟩⟩
 clear H'
 try clear c1
 try clear p2
 obtain ⟨x5_1, rfl, HA, HK1, BK437, HB⟩ := hrel
 cases gk with
 | zero => exact absurd HA.out (by simp [spec_l10Plan.l0])
 | succ k1 =>
  have H := HA.out
  clear HA
  simp only [spec_l10Plan.l0] at H
  by_cases c4 : x5_1 < (l1.length : Int)
  ·rw [if_pos c4] at H
   have c4b0 : decide (x5_1 < (l1.length : Int)) = true := decide_eq_true c4
   clear c4
   by_cases c5 : 0 ≤ x5_1
   rotate_left
   ·rw [if_neg c5] at H
    exact absurd H (by simp)
   rw [if_pos c5] at H
   have c5b0 : decide (0 ≤ x5_1) = true := decide_eq_true c5
   clear c5
   replace H := Option.bind_eq_some_iff.mp H
   obtain ⟨t439, A60, H⟩ := H
   replace H : (if t439 = true then (spec_l10Plan.l0 k1 l1 (wrap64 (x5_1 + 1)) a0_0 a0_1 l0_2) else (some false)) = some r := H
   have A6 := Aside0.mk A60
   clear A60
   by_cases c7 : t439 = true
   rotate_left
   ·replace c7 := Bool.eq_false_iff.mpr c7
    subst c7
    have H1 : (some false) = some r := by rw [if_neg (show ¬ (false = true) by decide)] at H; exact H
    clear H
    have H := H1
    clear H1
    obtain rfl := Option.some.inj H
    have p438 : 0 ≤ (x5_1 : Int) := oda
    have q438 : x5_1 < (l1.length : Int) := oda
    obtain ⟨ad438, e438, hx438_0⟩ := Kd.at_int HR1.out x5_1 p438 q438
    cases e438
    replace hx438_0 := cel HB hx438_0
    replace p438 := eq_true p438
    replace q438 := eq_true q438
    have hcz9_0 : wr.cell? ⟨gb437, 0, none⟩ = some (.int .i64 a0_0) := (blk_cell BK437.out 0).trans rfl
    have hcz9_1 : wr.cell? ⟨gb437, 1, none⟩ = some (.int .i64 a0_1) := (blk_cell BK437.out 1).trans rfl
    have hcz9_2 : wr.cell? ⟨gb437, 2, none⟩ = some (.slice A0_2 l0_2.length c0_2) := (blk_cell BK437.out 2).trans rfl
    have hfz9_0 := blk_frozen BK437.out 0
    have hfz9_1 := blk_frozen BK437.out 1
    have hfz9_2 := blk_frozen BK437.out 2
    go_wp2_with (first | (go_at_call 30; (with_reducible refine (spec_l1In.calls (rd l1 x5_1) 0 (wrap64 (a0_0 - 1)) false _ A6.out).mono ?_); rintro e w' ⟨rfl, ⟨nd, rfl⟩⟩; (try first | exact ⟨rfl, _, dd2⟩ | exact ⟨rfl, _, dd3⟩)))
    repeat (go_quiet (first | (go_at_call 30; (with_reducible refine (spec_l1In.calls (rd l1 x5_1) 0 (wrap64 (a0_0 - 1)) false _ A6.out).mono ?_); rintro e w' ⟨rfl, ⟨nd, rfl⟩⟩; (try first | exact ⟨rfl, _, dd2⟩ | exact ⟨rfl, _, dd3⟩))); try go_wp2_with (first | (go_at_call 30; (with_reducible refine (spec_l1In.calls (rd l1 x5_1) 0 (wrap64 (a0_0 - 1)) false _ A6.out).mono ?_); rintro e w' ⟨rfl, ⟨nd, rfl⟩⟩; (try first | exact ⟨rfl, _, dd2⟩ | exact ⟨rfl, _, dd3⟩))))
    go_ret
    exact ⟨by first | rfl | (simp [errW_none, errW_some] <;> rfl) | (simp [*, errW_none, errW_some] <;> rfl), bel1 HB GE437⟩
   subst c7
   have H1 : (spec_l10Plan.l0 k1 l1 (wrap64 (x5_1 + 1)) a0_0 a0_1 l0_2) = some r := by rw [if_pos rfl] at H; exact H
   clear H
   have H := H1
   clear H1
   have H' := Aside0.mk H
   clear H
   have p438 : 0 ≤ (x5_1 : Int) := oda
   have q438 : x5_1 < (l1.length : Int) := oda
   obtain ⟨ad438, e438, hx438_0⟩ := Kd.at_int HR1.out x5_1 p438 q438
   cases e438
   replace hx438_0 := cel HB hx438_0
   replace p438 := eq_true p438
   replace q438 := eq_true q438
   have hcz8_0 : wr.cell? ⟨gb437, 0, none⟩ = some (.int .i64 a0_0) := (blk_cell BK437.out 0).trans rfl
   have hcz8_1 : wr.cell? ⟨gb437, 1, none⟩ = some (.int .i64 a0_1) := (blk_cell BK437.out 1).trans rfl
   have hcz8_2 : wr.cell? ⟨gb437, 2, none⟩ = some (.slice A0_2 l0_2.length c0_2) := (blk_cell BK437.out 2).trans rfl
   have hfz8_0 := blk_frozen BK437.out 0
   have hfz8_1 := blk_frozen BK437.out 1
   have hfz8_2 := blk_frozen BK437.out 2
   go_wp2_with (first | (go_at_call 30; (with_reducible refine (spec_l1In.calls (rd l1 x5_1) 0 (wrap64 (a0_0 - 1)) true _ A6.out).mono ?_); rintro e w' ⟨rfl, ⟨nd, rfl⟩⟩; (try first | exact ⟨rfl, _, dd2⟩ | exact ⟨rfl, _, dd3⟩)))
   repeat (go_quiet (first | (go_at_call 30; (with_reducible refine (spec_l1In.calls (rd l1 x5_1) 0 (wrap64 (a0_0 - 1)) true _ A6.out).mono ?_); rintro e w' ⟨rfl, ⟨nd, rfl⟩⟩; (try first | exact ⟨rfl, _, dd2⟩ | exact ⟨rfl, _, dd3⟩))); try go_wp2_with (first | (go_at_call 30; (with_reducible refine (spec_l1In.calls (rd l1 x5_1) 0 (wrap64 (a0_0 - 1)) true _ A6.out).mono ?_); rintro e w' ⟨rfl, ⟨nd, rfl⟩⟩; (try first | exact ⟨rfl, _, dd2⟩ | exact ⟨rfl, _, dd3⟩))))
   go_roundg k1
   case measure => have := HK1.out; omega
   case rel => exact ⟨(wrap64 (x5_1 + 1)), (by first | rfl | (simp; done) | (simp [*]; done)), H', ⟨by have := HK1.out; omega⟩, ⟨bkl BK437⟩, ⟨bel1 HB GE437⟩⟩
  rw [if_neg c4] at H
  have c4b0 : decide (x5_1 < (l1.length : Int)) = false := decide_eq_false c4
  clear c4
  by_cases c10 : (l1.length : Int) = (l0_2.length : Int)
  rotate_left
  ·rw [if_neg c10] at H
   have c10b0 : ((l1.length : Int) == (l0_2.length : Int)) = false := beq_eq_false_iff_ne.mpr c10
   have c10b1 : ((l1.length : Int) != (l0_2.length : Int)) = true := bne_iff_ne.mpr c10
   have c10b2 : (l1.length == l0_2.length) = false := by first | simpa using c10 | (simp at c10 ⊢; omega)
   obtain rfl := Option.some.inj H
   have hcz17_0 : wr.cell? ⟨gb437, 0, none⟩ = some (.int .i64 a0_0) := (blk_cell BK437.out 0).trans rfl
   have hcz17_1 : wr.cell? ⟨gb437, 1, none⟩ = some (.int .i64 a0_1) := (blk_cell BK437.out 1).trans rfl
   have hcz17_2 : wr.cell? ⟨gb437, 2, none⟩ = some (.slice A0_2 l0_2.length c0_2) := (blk_cell BK437.out 2).trans rfl
   have hfz17_0 := blk_frozen BK437.out 0
   have hfz17_1 := blk_frozen BK437.out 1
   have hfz17_2 := blk_frozen BK437.out 2
   go_wp2
   repeat (go_quiet (fail); try go_wp2)
   go_ret
   exact ⟨by first | rfl | (simp [errW_none, errW_some] <;> rfl) | (simp [*, errW_none, errW_some] <;> rfl), bel1 HB GE437⟩
  rw [if_pos c10] at H
  have c10b0 : ((l1.length : Int) == (l0_2.length : Int)) = true := beq_iff_eq.mpr c10
  have c10b1 : ((l1.length : Int) != (l0_2.length : Int)) = false := bne_eq_false_iff_eq.mpr c10
  have c10b2 : (l1.length == l0_2.length) = true := by first | simpa using c10 | (simp at c10 ⊢; omega)
  clear c10
  replace H := Option.bind_eq_some_iff.mp H
  obtain ⟨⟨t440, t441⟩, A110, H⟩ := H
  replace H : ((spec_l9Good.f k1 t440 t441).bind fun t444 => (some t444)) = some r := H
  have A11 := Aside0.mk A110
  clear A110
  replace H := Option.bind_eq_some_iff.mp H
  obtain ⟨t444, A120, H⟩ := H
  replace H : (some t444) = some r := H
  have A12 := Aside0.mk A120
  clear A120
  obtain rfl := Option.some.inj H
  have hcz13_0 : wr.cell? ⟨gb437, 0, none⟩ = some (.int .i64 a0_0) := (blk_cell BK437.out 0).trans rfl
  have hcz13_1 : wr.cell? ⟨gb437, 1, none⟩ = some (.int .i64 a0_1) := (blk_cell BK437.out 1).trans rfl
  have hcz13_2 : wr.cell? ⟨gb437, 2, none⟩ = some (.slice A0_2 l0_2.length c0_2) := (blk_cell BK437.out 2).trans rfl
  have hfz13_0 := blk_frozen BK437.out 0
  have hfz13_1 := blk_frozen BK437.out 1
  have hfz13_2 := blk_frozen BK437.out 2
  go_wp2_with (first | (go_at_call 31; (with_reducible refine (spec_l10Bay.calls k1 a0_0 a0_1 _ _ l0_2 _ _ l1 t440 t441 _ ?side1 ?side2 ?side3 ?side4 A11.out).mono ?_); (case side1 => exact cdl (Kd.C_below HR0_2.out HB.out)); (case side2 => exact HC0_2.out); (case side3 => exact cdl (Kd.C_below HR1.out HB.out)); (case side4 => exact HC1.out); rintro e w14 ⟨v442, rfl, ho0, hb⟩; have n0_ := Aside0.mk (Kd.S_lower ho0 (below_size (bel1 HB GE437))); have n1_ := Aside0.mk (blk_below (g := gb437) (o := .cells #[.int .i64 a0_0, .int .i64 a0_1, .slice A0_2 l0_2.length c0_2] 26 (0, 0)) (bkl BK437) hb); have n2_ := Aside0.mk (below_step (bel1 HB GE437) hb); clear BK437; clear HB; have HO443 := n0_; have BK437 := n1_; have HB := n2_; clear n0_ n1_ n2_; (try clear hb); (try clear hb2); (try clear hk); (try clear hi); (try clear ho0); obtain ⟨Ao15, co15, eo15⟩ := Kd.S_slice HO443.out; subst eo15) | (go_at_call 77; (with_reducible refine (spec_l9Good.calls k1 t440 _ _ t441 t444 _ ?side1 ?side2 A12.out).mono ?_); (case side1 => exact cdl (Kd.S_reads' HO443.out).2.2); (case side2 => exact (Kd.S_reads' HO443.out).2.1); rintro e w16 ⟨rfl, hb⟩; have n0_ := Aside0.mk (Kd.S_below (sdl HO443) hb); have n1_ := Aside0.mk (blk_below (g := gb437) (o := .cells #[.int .i64 a0_0, .int .i64 a0_1, .slice A0_2 l0_2.length c0_2] 26 (0, 0)) (bkl BK437) hb); have n2_ := Aside0.mk (below_step (bel1 HB GE437) hb); clear HO443; clear BK437; clear HB; have HO443 := n0_; have BK437 := n1_; have HB := n2_; clear n0_ n1_ n2_; (try clear hb); (try clear hb2); (try clear hk); (try clear hi)))
  repeat (go_quiet (first | (go_at_call 31; (with_reducible refine (spec_l10Bay.calls k1 a0_0 a0_1 _ _ l0_2 _ _ l1 t440 t441 _ ?side1 ?side2 ?side3 ?side4 A11.out).mono ?_); (case side1 => exact cdl (Kd.C_below HR0_2.out HB.out)); (case side2 => exact HC0_2.out); (case side3 => exact cdl (Kd.C_below HR1.out HB.out)); (case side4 => exact HC1.out); rintro e w14 ⟨v442, rfl, ho0, hb⟩; have n0_ := Aside0.mk (Kd.S_lower ho0 (below_size (bel1 HB GE437))); have n1_ := Aside0.mk (blk_below (g := gb437) (o := .cells #[.int .i64 a0_0, .int .i64 a0_1, .slice A0_2 l0_2.length c0_2] 26 (0, 0)) (bkl BK437) hb); have n2_ := Aside0.mk (below_step (bel1 HB GE437) hb); clear BK437; clear HB; have HO443 := n0_; have BK437 := n1_; have HB := n2_; clear n0_ n1_ n2_; (try clear hb); (try clear hb2); (try clear hk); (try clear hi); (try clear ho0); obtain ⟨Ao15, co15, eo15⟩ := Kd.S_slice HO443.out; subst eo15) | (go_at_call 77; (with_reducible refine (spec_l9Good.calls k1 t440 _ _ t441 t444 _ ?side1 ?side2 A12.out).mono ?_); (case side1 => exact cdl (Kd.S_reads' HO443.out).2.2); (case side2 => exact (Kd.S_reads' HO443.out).2.1); rintro e w16 ⟨rfl, hb⟩; have n0_ := Aside0.mk (Kd.S_below (sdl HO443) hb); have n1_ := Aside0.mk (blk_below (g := gb437) (o := .cells #[.int .i64 a0_0, .int .i64 a0_1, .slice A0_2 l0_2.length c0_2] 26 (0, 0)) (bkl BK437) hb); have n2_ := Aside0.mk (below_step (bel1 HB GE437) hb); clear HO443; clear BK437; clear HB; have HO443 := n0_; have BK437 := n1_; have HB := n2_; clear n0_ n1_ n2_; (try clear hb); (try clear hb2); (try clear hk); (try clear hi))); try go_wp2_with (first | (go_at_call 31; (with_reducible refine (spec_l10Bay.calls k1 a0_0 a0_1 _ _ l0_2 _ _ l1 t440 t441 _ ?side1 ?side2 ?side3 ?side4 A11.out).mono ?_); (case side1 => exact cdl (Kd.C_below HR0_2.out HB.out)); (case side2 => exact HC0_2.out); (case side3 => exact cdl (Kd.C_below HR1.out HB.out)); (case side4 => exact HC1.out); rintro e w14 ⟨v442, rfl, ho0, hb⟩; have n0_ := Aside0.mk (Kd.S_lower ho0 (below_size (bel1 HB GE437))); have n1_ := Aside0.mk (blk_below (g := gb437) (o := .cells #[.int .i64 a0_0, .int .i64 a0_1, .slice A0_2 l0_2.length c0_2] 26 (0, 0)) (bkl BK437) hb); have n2_ := Aside0.mk (below_step (bel1 HB GE437) hb); clear BK437; clear HB; have HO443 := n0_; have BK437 := n1_; have HB := n2_; clear n0_ n1_ n2_; (try clear hb); (try clear hb2); (try clear hk); (try clear hi); (try clear ho0); obtain ⟨Ao15, co15, eo15⟩ := Kd.S_slice HO443.out; subst eo15) | (go_at_call 77; (with_reducible refine (spec_l9Good.calls k1 t440 _ _ t441 t444 _ ?side1 ?side2 A12.out).mono ?_); (case side1 => exact cdl (Kd.S_reads' HO443.out).2.2); (case side2 => exact (Kd.S_reads' HO443.out).2.1); rintro e w16 ⟨rfl, hb⟩; have n0_ := Aside0.mk (Kd.S_below (sdl HO443) hb); have n1_ := Aside0.mk (blk_below (g := gb437) (o := .cells #[.int .i64 a0_0, .int .i64 a0_1, .slice A0_2 l0_2.length c0_2] 26 (0, 0)) (bkl BK437) hb); have n2_ := Aside0.mk (below_step (bel1 HB GE437) hb); clear HO443; clear BK437; clear HB; have HO443 := n0_; have BK437 := n1_; have HB := n2_; clear n0_ n1_ n2_; (try clear hb); (try clear hb2); (try clear hk); (try clear hi))))
  go_ret
  exact ⟨by first | rfl | (simp [errW_none, errW_some] <;> rfl) | (simp [*, errW_none, errW_some] <;> rfl), bel1 HB GE437⟩
/-! ### spec_l10Asked: function 29 -/
def spec_l10Asked.f (k : Nat) (a0_0 : Int) (a0_1 : Int) (l0_2 : List Int) (l1 : List Int) : Option (Bool) := (spec_l10Good.f k a0_0 a0_1 l0_2).bind fun t446 => (if t446 = true then ((spec_l10Plan.f k a0_0 a0_1 l0_2 l1).bind fun t447 => (some t447)) else (some false))
theorem spec_l10Asked.mono : ∀ a0 a1 a2 a3 k, LeO (spec_l10Asked.f k a0 a1 a2 a3) (spec_l10Asked.f (k + 1) a0 a1 a2 a3) := by
 intro a0 a1 a2 a3 k
 unfold spec_l10Asked.f
 repeat' first
   | (with_reducible exact spec_l10Good.mono _ _ _ _)
   | (with_reducible exact spec_l10Plan.mono _ _ _ _ _)
   | (with_reducible exact LeO.refl _)
   | (with_reducible exact LeO.none _)
   | (with_reducible refine LeO.ite ?_ ?_)
   | (with_reducible refine LeO.bind ?_ (fun _ => ?_))
   | exact spec_l10Good.mono _ _ _ _
   | exact spec_l10Plan.mono _ _ _ _ _
   | exact LeO.none _
   | refine LeO.ite ?_ ?_
   | refine LeO.bind ?_ (fun _ => ?_)
set_option maxHeartbeats 8000000 in
set_option maxRecDepth 100000 in
theorem spec_l10Asked.calls (k : Nat) (a0_0 : Int) (a0_1 : Int) (A0_2 : Option Addr) (c0_2 : Nat) (l0_2 : List Int) (A1 : Option Addr) (c1 : Nat) (l1 : List Int) (r : Bool) (w : World) (hr0_2 : Kd.C (Kd.int .i64) w A0_2 l0_2.length l0_2) (hc0_2 : l0_2.length ≤ c0_2) (hr1 : Kd.C (Kd.int .i64) w A1 l1.length l1) (hc1 : l1.length ≤ c1) (h : spec_l10Asked.f k a0_0 a0_1 l0_2 l1 = some r) :
  Calls Try.prog 29 #[.agg #[.int .i64 a0_0, .int .i64 a0_1, .slice A0_2 l0_2.length c0_2], .slice A1 l1.length c1] w fun e w' => e = .returned (.bool r) ∧ Below w.heap.size w w' := by
 have hu26 := Try.underlying26
 have HR0_2 := Aside0.mk hr0_2
 have HC0_2 := Aside0.mk hc0_2
 clear hr0_2 hc0_2
 have HR1 := Aside0.mk hr1
 have HC1 := Aside0.mk hc1
 clear hr1 hc1
 have HB := Aside0.mk (Below.refl w.heap.size w)
 have H : ((spec_l10Good.f k a0_0 a0_1 l0_2).bind fun t446 => (if t446 = true then ((spec_l10Plan.f k a0_0 a0_1 l0_2 l1).bind fun t447 => (some t447)) else (some false))) = some r := h
 clear h
 replace H := Option.bind_eq_some_iff.mp H
 obtain ⟨t446, A30, H⟩ := H
 replace H : (if t446 = true then ((spec_l10Plan.f k a0_0 a0_1 l0_2 l1).bind fun t447 => (some t447)) else (some false)) = some r := H
 have A3 := Aside0.mk A30
 clear A30
 by_cases c4 : t446 = true
 rotate_left
 ·replace c4 := Bool.eq_false_iff.mpr c4
  subst c4
  have H1 : (some false) = some r := by rw [if_neg (show ¬ (false = true) by decide)] at H; exact H
  clear H
  have H := H1
  clear H1
  obtain rfl := Option.some.inj H
  go_enter Try.func29, Try.ntmps29
  go_wp2_with (first | ((with_reducible refine gate_dst (N := 2) rfl ?_); refine box_event ?hg (N := 2) ?hd (cs := #[.int .i64 a0_0, .int .i64 a0_1, .slice A0_2 l0_2.length c0_2]) (t := 26) ?hr ?_; (case hd => rfl); (case hg => rfl); (case hr => first | (go_simp; done) | (go_simp; rfl)); intro gb445 hg w11 hbox hb; have n0_ := Aside0.mk (below_step (bel HB) hb); have n1_ := Aside0.mk (hbox); have n2_ := Aside0.mk ((by rw [hg]; exact (below_size (bel HB)) : w.heap.size ≤ gb445)); have n3_ := Aside0.mk ((by rw [hg]; exact (below_size (bel HB)) : w.heap.size ≤ gb445)); clear HB; have HB := n0_; have BK445 := n1_; have GW445 := n2_; have GE445 := n3_; clear n0_ n1_ n2_ n3_; clear hb hbox hg; have hcz12_0 : w11.cell? ⟨gb445, 0, none⟩ = some (.int .i64 a0_0) := (blk_cell BK445.out 0).trans rfl; have hcz12_1 : w11.cell? ⟨gb445, 1, none⟩ = some (.int .i64 a0_1) := (blk_cell BK445.out 1).trans rfl; have hcz12_2 : w11.cell? ⟨gb445, 2, none⟩ = some (.slice A0_2 l0_2.length c0_2) := (blk_cell BK445.out 2).trans rfl; have hfz12_0 := blk_frozen BK445.out 0; have hfz12_1 := blk_frozen BK445.out 1; have hfz12_2 := blk_frozen BK445.out 2) | ((with_reducible refine gate_callee (f := 41) rfl ?_); refine goesL_ (some 6) rfl rfl Try.func41 (by kernel_rfl) rfl #[.agg #[.int .i64 a0_0, .int .i64 a0_1, .slice A0_2 l0_2.length c0_2]] rfl gmp ?_; (with_reducible refine (spec_l10Good.calls k a0_0 a0_1 _ _ l0_2 false _ ?side1 ?side2 A3.out).mono ?_); (case side1 => exact cdl (Kd.C_below HR0_2.out HB.out)); (case side2 => exact HC0_2.out); rintro e w13 ⟨rfl, hb⟩; refine ⟨_, rfl, ?_⟩; have n0_ := Aside0.mk (blk_below (g := gb445) (o := .cells #[.int .i64 a0_0, .int .i64 a0_1, .slice A0_2 l0_2.length c0_2] 26 (0, 0)) (bkl BK445) hb); have n1_ := Aside0.mk (below_step (bel1 HB GE445) hb); clear BK445; clear HB; have BK445 := n0_; have HB := n1_; clear n0_ n1_; (try clear hb); (try clear hb2); (try clear hk); (try clear hi)))
  go_ret
  exact ⟨by first | rfl | (simp [errW_none, errW_some] <;> rfl) | (simp [*, errW_none, errW_some] <;> rfl), bel1 HB GE445⟩
 subst c4
 have H1 : ((spec_l10Plan.f k a0_0 a0_1 l0_2 l1).bind fun t447 => (some t447)) = some r := by rw [if_pos rfl] at H; exact H
 clear H
 have H := H1
 clear H1
 replace H := Option.bind_eq_some_iff.mp H
 obtain ⟨t447, A50, H⟩ := H
 replace H : (some t447) = some r := H
 have A5 := Aside0.mk A50
 clear A50
 obtain rfl := Option.some.inj H
 go_enter Try.func29, Try.ntmps29
 go_wp2_with (first | ((with_reducible refine gate_dst (N := 2) rfl ?_); refine box_event ?hg (N := 2) ?hd (cs := #[.int .i64 a0_0, .int .i64 a0_1, .slice A0_2 l0_2.length c0_2]) (t := 26) ?hr ?_; (case hd => rfl); (case hg => rfl); (case hr => first | (go_simp; done) | (go_simp; rfl)); intro gb445 hg w6 hbox hb; have n0_ := Aside0.mk (below_step (bel HB) hb); have n1_ := Aside0.mk (hbox); have n2_ := Aside0.mk ((by rw [hg]; exact (below_size (bel HB)) : w.heap.size ≤ gb445)); have n3_ := Aside0.mk ((by rw [hg]; exact (below_size (bel HB)) : w.heap.size ≤ gb445)); clear HB; have HB := n0_; have BK445 := n1_; have GW445 := n2_; have GE445 := n3_; clear n0_ n1_ n2_ n3_; clear hb hbox hg; have hcz7_0 : w6.cell? ⟨gb445, 0, none⟩ = some (.int .i64 a0_0) := (blk_cell BK445.out 0).trans rfl; have hcz7_1 : w6.cell? ⟨gb445, 1, none⟩ = some (.int .i64 a0_1) := (blk_cell BK445.out 1).trans rfl; have hcz7_2 : w6.cell? ⟨gb445, 2, none⟩ = some (.slice A0_2 l0_2.length c0_2) := (blk_cell BK445.out 2).trans rfl; have hfz7_0 := blk_frozen BK445.out 0; have hfz7_1 := blk_frozen BK445.out 1; have hfz7_2 := blk_frozen BK445.out 2) | ((with_reducible refine gate_callee (f := 41) rfl ?_); refine goesL_ (some 6) rfl rfl Try.func41 (by kernel_rfl) rfl #[.agg #[.int .i64 a0_0, .int .i64 a0_1, .slice A0_2 l0_2.length c0_2]] rfl gmp ?_; (with_reducible refine (spec_l10Good.calls k a0_0 a0_1 _ _ l0_2 true _ ?side1 ?side2 A3.out).mono ?_); (case side1 => exact cdl (Kd.C_below HR0_2.out HB.out)); (case side2 => exact HC0_2.out); rintro e w8 ⟨rfl, hb⟩; refine ⟨_, rfl, ?_⟩; have n0_ := Aside0.mk (blk_below (g := gb445) (o := .cells #[.int .i64 a0_0, .int .i64 a0_1, .slice A0_2 l0_2.length c0_2] 26 (0, 0)) (bkl BK445) hb); have n1_ := Aside0.mk (below_step (bel1 HB GE445) hb); clear BK445; clear HB; have BK445 := n0_; have HB := n1_; clear n0_ n1_; (try clear hb); (try clear hb2); (try clear hk); (try clear hi); have hcz9_0 : w8.cell? ⟨gb445, 0, none⟩ = some (.int .i64 a0_0) := (blk_cell BK445.out 0).trans rfl; have hcz9_1 : w8.cell? ⟨gb445, 1, none⟩ = some (.int .i64 a0_1) := (blk_cell BK445.out 1).trans rfl; have hcz9_2 : w8.cell? ⟨gb445, 2, none⟩ = some (.slice A0_2 l0_2.length c0_2) := (blk_cell BK445.out 2).trans rfl; have hfz9_0 := blk_frozen BK445.out 0; have hfz9_1 := blk_frozen BK445.out 1; have hfz9_2 := blk_frozen BK445.out 2) | (go_at_call 57; (with_reducible refine (spec_l10Plan.calls k a0_0 a0_1 _ _ l0_2 _ _ l1 t447 _ ?side1 ?side2 ?side3 ?side4 A5.out).mono ?_); (case side1 => exact cdl (Kd.C_below HR0_2.out HB.out)); (case side2 => exact HC0_2.out); (case side3 => exact cdl (Kd.C_below HR1.out HB.out)); (case side4 => exact HC1.out); rintro e w10 ⟨rfl, hb⟩; have n0_ := Aside0.mk (blk_below (g := gb445) (o := .cells #[.int .i64 a0_0, .int .i64 a0_1, .slice A0_2 l0_2.length c0_2] 26 (0, 0)) (bkl BK445) hb); have n1_ := Aside0.mk (below_step (bel1 HB GE445) hb); clear BK445; clear HB; have BK445 := n0_; have HB := n1_; clear n0_ n1_; (try clear hb); (try clear hb2); (try clear hk); (try clear hi)))
 go_ret
 exact ⟨by first | rfl | (simp [errW_none, errW_some] <;> rfl) | (simp [*, errW_none, errW_some] <;> rfl), bel1 HB GE445⟩
end Go.Proofs.Ytipahijdcgoemaa.P
