-- Written by a program of this session over the translation (a variant of the printer, see wip/gen); Lean checks it.
import Derived.Test.YtmpmcckjpkijnaaPx0
import Derived.Test.YtmpmcckjpkijnaaPx1
import Derived.Test.YtmpmcckjpkijnaaPx10
import Derived.Test.YtmpmcckjpkijnaaPx19
import Derived.Test.YtmpmcckjpkijnaaPx21
import Derived.Test.YtmpmcckjpkijnaaPx23
import Derived.Test.YtmpmcckjpkijnaaPx24
namespace Go.Proofs.Ytmpmcckjpkijnaa.P
open Go.RowKit Go.Proofs.YtmpmcckjpkijnaaW.PrintWords Go.Proofs.YtmpmcckjpkijnaaW.PrintLast Go.Proofs.YtmpmcckjpkijnaaW.PrintMore
attribute [local go_sem] Go.Proofs.Ytmpmcckjpkijnaa.V.isSome_setCell max2_int min2_int max_two min_two max_three min_three max_four min_four   -- for this text's walks alone
set_option linter.unusedVariables false
set_option linter.unusedSimpArgs false

/-! ### laws_FnExactWorstStack: function 4 -/
def laws_FnExactWorstStack.j0 : Nat → List (S65) → List (S69) → Bool → List (List Int) → List (List Int) → Option (Bool)
 | 0, _, _, _, _, _ => none
 | k + 1, x1, x12, x60, x348000, x363000 => if x60 = true then (some false) else ((laws_toYard.f k x348000).bind fun t369 => ((laws_eqYard.f k x363000 t369).bind fun t372 => (if t372 = true then ((laws_toContainerS.f k x1).bind fun t373 => ((laws_eqContainerS.f k x12 t373).bind fun t376 => (if t376 = true then (some true) else (some false)))) else (some false))))
def laws_FnExactWorstStack.f (k : Nat) (l0_0 : List (List Int)) (l1 : List (S65)) (a2 : Int) : Option (Bool) := (laws_szYard.f k l0_0 1048576).bind fun t348 => (if t348 < 0 then (some true) else ((laws_szContainerS.f k l1 t348).bind fun t349 => (if t349 < 0 then (some true) else ((laws_toYard.f k l0_0).bind fun t350 => ((laws_toContainerS.f k l1).bind fun t353 => ((spec_WorstStack.f k t350 t353 a2).bind fun bt356 => ((laws_toYard.f k l0_0).bind fun t359 => ((laws_toContainerS.f k l1).bind fun t363 => ((impl_WorstStack.f k t359 t363 a2).bind fun bt366 => (if bt366.1 = bt356.1 then (if bt366.2.1 = bt356.2.1 then (laws_FnExactWorstStack.j0 k l1 t363 (bt366.2.2 != bt356.2.2) l0_0 t359) else (laws_FnExactWorstStack.j0 k l1 t363 true l0_0 t359)) else (laws_FnExactWorstStack.j0 k l1 t363 true l0_0 t359)))))))))))
theorem laws_FnExactWorstStack.mono_l : ∀ k, (∀ y0 y1 y2 y3 y4, LeO (laws_FnExactWorstStack.j0 k y0 y1 y2 y3 y4) (laws_FnExactWorstStack.j0 (k + 1) y0 y1 y2 y3 y4))
 | 0 => fun _ _ _ _ _ r h => by simp [laws_FnExactWorstStack.j0] at h
 | k + 1 => by
  have ih0 := laws_FnExactWorstStack.mono_l k
  ·intro y0 y1 y2 y3 y4
   unfold laws_FnExactWorstStack.j0
   repeat' first
   | (with_reducible exact ih0 _ _ _ _ _)
   | (with_reducible exact impl_WorstStack.mono _ _ _ _)
   | (with_reducible exact laws_eqContainerS.mono _ _ _)
   | (with_reducible exact laws_eqYard.mono _ _ _)
   | (with_reducible exact laws_szContainerS.mono _ _ _)
   | (with_reducible exact laws_szYard.mono _ _ _)
   | (with_reducible exact laws_toContainerS.mono _ _)
   | (with_reducible exact laws_toYard.mono _ _)
   | (with_reducible exact spec_WorstStack.mono _ _ _ _)
   | (with_reducible exact LeO.refl _)
   | (with_reducible exact LeO.none _)
   | (with_reducible refine LeO.ite ?_ ?_)
   | (with_reducible refine LeO.bind ?_ (fun _ => ?_))
   | exact ih0 _ _ _ _ _
   | exact impl_WorstStack.mono _ _ _ _
   | exact laws_eqContainerS.mono _ _ _
   | exact laws_eqYard.mono _ _ _
   | exact laws_szContainerS.mono _ _ _
   | exact laws_szYard.mono _ _ _
   | exact laws_toContainerS.mono _ _
   | exact laws_toYard.mono _ _
   | exact spec_WorstStack.mono _ _ _ _
   | exact LeO.none _
   | refine LeO.ite ?_ ?_
   | refine LeO.bind ?_ (fun _ => ?_)
theorem laws_FnExactWorstStack.mono : ∀ a0 a1 a2 k, LeO (laws_FnExactWorstStack.f k a0 a1 a2) (laws_FnExactWorstStack.f (k + 1) a0 a1 a2) := by
 intro a0 a1 a2 k
 have ih0 := laws_FnExactWorstStack.mono_l k
 unfold laws_FnExactWorstStack.f
 repeat' first
   | (with_reducible exact ih0 _ _ _ _ _)
   | (with_reducible exact impl_WorstStack.mono _ _ _ _)
   | (with_reducible exact laws_eqContainerS.mono _ _ _)
   | (with_reducible exact laws_eqYard.mono _ _ _)
   | (with_reducible exact laws_szContainerS.mono _ _ _)
   | (with_reducible exact laws_szYard.mono _ _ _)
   | (with_reducible exact laws_toContainerS.mono _ _)
   | (with_reducible exact laws_toYard.mono _ _)
   | (with_reducible exact spec_WorstStack.mono _ _ _ _)
   | (with_reducible exact LeO.refl _)
   | (with_reducible exact LeO.none _)
   | (with_reducible refine LeO.ite ?_ ?_)
   | (with_reducible refine LeO.bind ?_ (fun _ => ?_))
   | exact ih0 _ _ _ _ _
   | exact impl_WorstStack.mono _ _ _ _
   | exact laws_eqContainerS.mono _ _ _
   | exact laws_eqYard.mono _ _ _
   | exact laws_szContainerS.mono _ _ _
   | exact laws_szYard.mono _ _ _
   | exact laws_toContainerS.mono _ _
   | exact laws_toYard.mono _ _
   | exact spec_WorstStack.mono _ _ _ _
   | exact LeO.none _
   | refine LeO.ite ?_ ?_
   | refine LeO.bind ?_ (fun _ => ?_)
set_option maxHeartbeats 8000000 in
set_option maxRecDepth 100000 in
theorem laws_FnExactWorstStack.calls (k : Nat) (A0_0 : Option Addr) (c0_0 : Nat) (l0_0 : List (List Int)) (A1 : Option Addr) (c1 : Nat) (l1 : List (S65)) (a2 : Int) (r : Bool) (w : World) (hr0_0 : Kd.C (Kd.slice 3 (Kd.int .i64)) w A0_0 l0_0.length l0_0) (hc0_0 : l0_0.length ≤ c0_0) (hr1 : Kd.C k65 w A1 l1.length l1) (hc1 : l1.length ≤ c1) (h : laws_FnExactWorstStack.f k l0_0 l1 a2 = some r) :
  Calls Try.prog 4 #[.agg #[.slice A0_0 l0_0.length c0_0], .slice A1 l1.length c1, .int .i64 a2] w fun e w' => e = .returned (.bool r) ∧ Below w.heap.size w w' := by
 have hu24 := Try.underlying24
 have hu30 := Try.underlying30
 have HR0_0 := Aside0.mk hr0_0
 have HC0_0 := Aside0.mk hc0_0
 clear hr0_0 hc0_0
 have HR1 := Aside0.mk hr1
 have HC1 := Aside0.mk hc1
 clear hr1 hc1
 have HB := Aside0.mk (Below.refl w.heap.size w)
 have H : ((laws_szYard.f k l0_0 1048576).bind fun t348 => (if t348 < 0 then (some true) else ((laws_szContainerS.f k l1 t348).bind fun t349 => (if t349 < 0 then (some true) else ((laws_toYard.f k l0_0).bind fun t350 => ((laws_toContainerS.f k l1).bind fun t353 => ((spec_WorstStack.f k t350 t353 a2).bind fun bt356 => ((laws_toYard.f k l0_0).bind fun t359 => ((laws_toContainerS.f k l1).bind fun t363 => ((impl_WorstStack.f k t359 t363 a2).bind fun bt366 => (if bt366.1 = bt356.1 then (if bt366.2.1 = bt356.2.1 then (laws_FnExactWorstStack.j0 k l1 t363 (bt366.2.2 != bt356.2.2) l0_0 t359) else (laws_FnExactWorstStack.j0 k l1 t363 true l0_0 t359)) else (laws_FnExactWorstStack.j0 k l1 t363 true l0_0 t359)))))))))))) = some r := h
 clear h
 replace H := Option.bind_eq_some_iff.mp H
 obtain ⟨t348, A40, H⟩ := H
 replace H : (if t348 < 0 then (some true) else ((laws_szContainerS.f k l1 t348).bind fun t349 => (if t349 < 0 then (some true) else ((laws_toYard.f k l0_0).bind fun t350 => ((laws_toContainerS.f k l1).bind fun t353 => ((spec_WorstStack.f k t350 t353 a2).bind fun bt356 => ((laws_toYard.f k l0_0).bind fun t359 => ((laws_toContainerS.f k l1).bind fun t363 => ((impl_WorstStack.f k t359 t363 a2).bind fun bt366 => (if bt366.1 = bt356.1 then (if bt366.2.1 = bt356.2.1 then (laws_FnExactWorstStack.j0 k l1 t363 (bt366.2.2 != bt356.2.2) l0_0 t359) else (laws_FnExactWorstStack.j0 k l1 t363 true l0_0 t359)) else (laws_FnExactWorstStack.j0 k l1 t363 true l0_0 t359))))))))))) = some r := H
 have A4 := Aside0.mk A40
 clear A40
 by_cases c5 : t348 < 0
 ·rw [if_pos c5] at H
  have c5b0 : decide (t348 < 0) = true := decide_eq_true c5
  clear c5
  obtain rfl := Option.some.inj H
  go_enter Try.func4, Try.ntmps4
  go_wp2_with (first | ((with_reducible refine gate_dst (N := 3) rfl ?_); refine box_event ?hg (N := 3) ?hd (cs := #[.slice A0_0 l0_0.length c0_0]) (t := 24) ?hr ?_; (case hd => rfl); (case hg => rfl); (case hr => first | (go_simp; done) | (go_simp; rfl)); intro gb347 hg w6 hbox hb; have n0_ := Aside0.mk (below_step (bel HB) hb); have n1_ := Aside0.mk (hbox); have n2_ := Aside0.mk ((by rw [hg]; exact (below_size (bel HB)) : w.heap.size ≤ gb347)); have n3_ := Aside0.mk ((by rw [hg]; exact (below_size (bel HB)) : w.heap.size ≤ gb347)); clear HB; have HB := n0_; have BK347 := n1_; have GW347 := n2_; have GE347 := n3_; clear n0_ n1_ n2_ n3_; clear hb hbox hg; have hcz7_0 : w6.cell? ⟨gb347, 0, none⟩ = some (.slice A0_0 l0_0.length c0_0) := (blk_cell BK347.out 0).trans rfl; have hfz7_0 := blk_frozen BK347.out 0) | ((with_reducible refine gate_callee (f := 10) rfl ?_); refine goesL_ (some 18) rfl rfl Try.func10 (by kernel_rfl) rfl #[.agg #[.slice A0_0 l0_0.length c0_0], .int .i64 1048576] rfl gmp ?_; (with_reducible refine (laws_szYard.calls k _ _ l0_0 1048576 t348 _ ?side1 ?side2 A4.out).mono ?_); (case side1 => exact cdl (Kd.C_below HR0_0.out HB.out)); (case side2 => exact HC0_0.out); rintro e w8 ⟨rfl, hb⟩; refine ⟨_, rfl, ?_⟩; have n0_ := Aside0.mk (blk_below (g := gb347) (o := .cells #[.slice A0_0 l0_0.length c0_0] 24 (0, 0)) (bkl BK347) hb); have n1_ := Aside0.mk (below_step (bel1 HB GE347) hb); clear BK347; clear HB; have BK347 := n0_; have HB := n1_; clear n0_ n1_; (try clear hb); (try clear hb2); (try clear hk); (try clear hi)))
  go_ret
  exact ⟨by first | rfl | (simp [errW_none, errW_some] <;> rfl) | (simp [*, errW_none, errW_some] <;> rfl), bel1 HB GE347⟩
 ·rw [if_neg c5] at H
  have c5b0 : decide (t348 < 0) = false := decide_eq_false c5
  clear c5
  replace H := Option.bind_eq_some_iff.mp H
  obtain ⟨t349, A90, H⟩ := H
  replace H : (if t349 < 0 then (some true) else ((laws_toYard.f k l0_0).bind fun t350 => ((laws_toContainerS.f k l1).bind fun t353 => ((spec_WorstStack.f k t350 t353 a2).bind fun bt356 => ((laws_toYard.f k l0_0).bind fun t359 => ((laws_toContainerS.f k l1).bind fun t363 => ((impl_WorstStack.f k t359 t363 a2).bind fun bt366 => (if bt366.1 = bt356.1 then (if bt366.2.1 = bt356.2.1 then (laws_FnExactWorstStack.j0 k l1 t363 (bt366.2.2 != bt356.2.2) l0_0 t359) else (laws_FnExactWorstStack.j0 k l1 t363 true l0_0 t359)) else (laws_FnExactWorstStack.j0 k l1 t363 true l0_0 t359))))))))) = some r := H
  have A9 := Aside0.mk A90
  clear A90
  by_cases c10 : t349 < 0
  ·rw [if_pos c10] at H
   have c10b0 : decide (t349 < 0) = true := decide_eq_true c10
   clear c10
   obtain rfl := Option.some.inj H
   go_enter Try.func4, Try.ntmps4
   go_wp2_with (first | ((with_reducible refine gate_dst (N := 3) rfl ?_); refine box_event ?hg (N := 3) ?hd (cs := #[.slice A0_0 l0_0.length c0_0]) (t := 24) ?hr ?_; (case hd => rfl); (case hg => rfl); (case hr => first | (go_simp; done) | (go_simp; rfl)); intro gb347 hg w11 hbox hb; have n0_ := Aside0.mk (below_step (bel HB) hb); have n1_ := Aside0.mk (hbox); have n2_ := Aside0.mk ((by rw [hg]; exact (below_size (bel HB)) : w.heap.size ≤ gb347)); have n3_ := Aside0.mk ((by rw [hg]; exact (below_size (bel HB)) : w.heap.size ≤ gb347)); clear HB; have HB := n0_; have BK347 := n1_; have GW347 := n2_; have GE347 := n3_; clear n0_ n1_ n2_ n3_; clear hb hbox hg; have hcz12_0 : w11.cell? ⟨gb347, 0, none⟩ = some (.slice A0_0 l0_0.length c0_0) := (blk_cell BK347.out 0).trans rfl; have hfz12_0 := blk_frozen BK347.out 0) | ((with_reducible refine gate_callee (f := 10) rfl ?_); refine goesL_ (some 18) rfl rfl Try.func10 (by kernel_rfl) rfl #[.agg #[.slice A0_0 l0_0.length c0_0], .int .i64 1048576] rfl gmp ?_; (with_reducible refine (laws_szYard.calls k _ _ l0_0 1048576 t348 _ ?side1 ?side2 A4.out).mono ?_); (case side1 => exact cdl (Kd.C_below HR0_0.out HB.out)); (case side2 => exact HC0_0.out); rintro e w13 ⟨rfl, hb⟩; refine ⟨_, rfl, ?_⟩; have n0_ := Aside0.mk (blk_below (g := gb347) (o := .cells #[.slice A0_0 l0_0.length c0_0] 24 (0, 0)) (bkl BK347) hb); have n1_ := Aside0.mk (below_step (bel1 HB GE347) hb); clear BK347; clear HB; have BK347 := n0_; have HB := n1_; clear n0_ n1_; (try clear hb); (try clear hb2); (try clear hk); (try clear hi)) | ((with_reducible refine gate_callee (f := 11) rfl ?_); refine goesL_ (some 23) rfl rfl Try.func11 (by kernel_rfl) rfl #[.slice A1 l1.length c1, .int .i64 t348] rfl gmp ?_; (with_reducible refine (laws_szContainerS.calls k _ _ l1 t348 t349 _ ?side1 ?side2 A9.out).mono ?_); (case side1 => exact cdl (Kd.C_below HR1.out HB.out)); (case side2 => exact HC1.out); rintro e w14 ⟨rfl, hb⟩; refine ⟨_, rfl, ?_⟩; have n0_ := Aside0.mk (blk_below (g := gb347) (o := .cells #[.slice A0_0 l0_0.length c0_0] 24 (0, 0)) (bkl BK347) hb); have n1_ := Aside0.mk (below_step (bel1 HB GE347) hb); clear BK347; clear HB; have BK347 := n0_; have HB := n1_; clear n0_ n1_; (try clear hb); (try clear hb2); (try clear hk); (try clear hi)))
   go_ret
   exact ⟨by first | rfl | (simp [errW_none, errW_some] <;> rfl) | (simp [*, errW_none, errW_some] <;> rfl), bel1 HB GE347⟩
  ·rw [if_neg c10] at H
   have c10b0 : decide (t349 < 0) = false := decide_eq_false c10
   clear c10
   replace H := Option.bind_eq_some_iff.mp H
   obtain ⟨t350, A150, H⟩ := H
   replace H : ((laws_toContainerS.f k l1).bind fun t353 => ((spec_WorstStack.f k t350 t353 a2).bind fun bt356 => ((laws_toYard.f k l0_0).bind fun t359 => ((laws_toContainerS.f k l1).bind fun t363 => ((impl_WorstStack.f k t359 t363 a2).bind fun bt366 => (if bt366.1 = bt356.1 then (if bt366.2.1 = bt356.2.1 then (laws_FnExactWorstStack.j0 k l1 t363 (bt366.2.2 != bt356.2.2) l0_0 t359) else (laws_FnExactWorstStack.j0 k l1 t363 true l0_0 t359)) else (laws_FnExactWorstStack.j0 k l1 t363 true l0_0 t359))))))) = some r := H
   have A15 := Aside0.mk A150
   clear A150
   replace H := Option.bind_eq_some_iff.mp H
   obtain ⟨t353, A160, H⟩ := H
   replace H : ((spec_WorstStack.f k t350 t353 a2).bind fun bt356 => ((laws_toYard.f k l0_0).bind fun t359 => ((laws_toContainerS.f k l1).bind fun t363 => ((impl_WorstStack.f k t359 t363 a2).bind fun bt366 => (if bt366.1 = bt356.1 then (if bt366.2.1 = bt356.2.1 then (laws_FnExactWorstStack.j0 k l1 t363 (bt366.2.2 != bt356.2.2) l0_0 t359) else (laws_FnExactWorstStack.j0 k l1 t363 true l0_0 t359)) else (laws_FnExactWorstStack.j0 k l1 t363 true l0_0 t359)))))) = some r := H
   have A16 := Aside0.mk A160
   clear A160
   replace H := Option.bind_eq_some_iff.mp H
   obtain ⟨⟨t356, t357, t358⟩, A170, H⟩ := H
   replace H : ((laws_toYard.f k l0_0).bind fun t359 => ((laws_toContainerS.f k l1).bind fun t363 => ((impl_WorstStack.f k t359 t363 a2).bind fun bt366 => (if bt366.1 = t356 then (if bt366.2.1 = t357 then (laws_FnExactWorstStack.j0 k l1 t363 (bt366.2.2 != t358) l0_0 t359) else (laws_FnExactWorstStack.j0 k l1 t363 true l0_0 t359)) else (laws_FnExactWorstStack.j0 k l1 t363 true l0_0 t359))))) = some r := H
   have A17 := Aside0.mk A170
   clear A170
   replace H := Option.bind_eq_some_iff.mp H
   obtain ⟨t359, A180, H⟩ := H
   replace H : ((laws_toContainerS.f k l1).bind fun t363 => ((impl_WorstStack.f k t359 t363 a2).bind fun bt366 => (if bt366.1 = t356 then (if bt366.2.1 = t357 then (laws_FnExactWorstStack.j0 k l1 t363 (bt366.2.2 != t358) l0_0 t359) else (laws_FnExactWorstStack.j0 k l1 t363 true l0_0 t359)) else (laws_FnExactWorstStack.j0 k l1 t363 true l0_0 t359)))) = some r := H
   have A18 := Aside0.mk A180
   clear A180
   replace H := Option.bind_eq_some_iff.mp H
   obtain ⟨t363, A190, H⟩ := H
   replace H : ((impl_WorstStack.f k t359 t363 a2).bind fun bt366 => (if bt366.1 = t356 then (if bt366.2.1 = t357 then (laws_FnExactWorstStack.j0 k l1 t363 (bt366.2.2 != t358) l0_0 t359) else (laws_FnExactWorstStack.j0 k l1 t363 true l0_0 t359)) else (laws_FnExactWorstStack.j0 k l1 t363 true l0_0 t359))) = some r := H
   have A19 := Aside0.mk A190
   clear A190
   replace H := Option.bind_eq_some_iff.mp H
   obtain ⟨⟨t366, t367, t368⟩, A200, H⟩ := H
   replace H : (if t366 = t356 then (if t367 = t357 then (laws_FnExactWorstStack.j0 k l1 t363 (t368 != t358) l0_0 t359) else (laws_FnExactWorstStack.j0 k l1 t363 true l0_0 t359)) else (laws_FnExactWorstStack.j0 k l1 t363 true l0_0 t359)) = some r := H
   have A20 := Aside0.mk A200
   clear A200
   have HC21 := Aside0.mk H
   clear H
   go_enter Try.func4, Try.ntmps4
   go_upto_region 12 with (first | ((with_reducible refine gate_dst (N := 3) rfl ?_); refine box_event ?hg (N := 3) ?hd (cs := #[.slice A0_0 l0_0.length c0_0]) (t := 24) ?hr ?_; (case hd => rfl); (case hg => rfl); (case hr => first | (go_simp; done) | (go_simp; rfl)); intro gb347 hg w22 hbox hb; have n0_ := Aside0.mk (below_step (bel HB) hb); have n1_ := Aside0.mk (hbox); have n2_ := Aside0.mk ((by rw [hg]; exact (below_size (bel HB)) : w.heap.size ≤ gb347)); have n3_ := Aside0.mk ((by rw [hg]; exact (below_size (bel HB)) : w.heap.size ≤ gb347)); clear HB; have HB := n0_; have BK347 := n1_; have GW347 := n2_; have GE347 := n3_; clear n0_ n1_ n2_ n3_; clear hb hbox hg; have hcz23_0 : w22.cell? ⟨gb347, 0, none⟩ = some (.slice A0_0 l0_0.length c0_0) := (blk_cell BK347.out 0).trans rfl; have hfz23_0 := blk_frozen BK347.out 0) | ((with_reducible refine gate_callee (f := 10) rfl ?_); refine goesL_ (some 18) rfl rfl Try.func10 (by kernel_rfl) rfl #[.agg #[.slice A0_0 l0_0.length c0_0], .int .i64 1048576] rfl gmp ?_; (with_reducible refine (laws_szYard.calls k _ _ l0_0 1048576 t348 _ ?side1 ?side2 A4.out).mono ?_); (case side1 => exact cdl (Kd.C_below HR0_0.out HB.out)); (case side2 => exact HC0_0.out); rintro e w24 ⟨rfl, hb⟩; refine ⟨_, rfl, ?_⟩; have n0_ := Aside0.mk (blk_below (g := gb347) (o := .cells #[.slice A0_0 l0_0.length c0_0] 24 (0, 0)) (bkl BK347) hb); have n1_ := Aside0.mk (below_step (bel1 HB GE347) hb); clear BK347; clear HB; have BK347 := n0_; have HB := n1_; clear n0_ n1_; (try clear hb); (try clear hb2); (try clear hk); (try clear hi)) | ((with_reducible refine gate_callee (f := 11) rfl ?_); refine goesL_ (some 23) rfl rfl Try.func11 (by kernel_rfl) rfl #[.slice A1 l1.length c1, .int .i64 t348] rfl gmp ?_; (with_reducible refine (laws_szContainerS.calls k _ _ l1 t348 t349 _ ?side1 ?side2 A9.out).mono ?_); (case side1 => exact cdl (Kd.C_below HR1.out HB.out)); (case side2 => exact HC1.out); rintro e w25 ⟨rfl, hb⟩; refine ⟨_, rfl, ?_⟩; have n0_ := Aside0.mk (blk_below (g := gb347) (o := .cells #[.slice A0_0 l0_0.length c0_0] 24 (0, 0)) (bkl BK347) hb); have n1_ := Aside0.mk (below_step (bel1 HB GE347) hb); clear BK347; clear HB; have BK347 := n0_; have HB := n1_; clear n0_ n1_; (try clear hb); (try clear hb2); (try clear hk); (try clear hi); have hcz26_0 : w25.cell? ⟨gb347, 0, none⟩ = some (.slice A0_0 l0_0.length c0_0) := (blk_cell BK347.out 0).trans rfl; have hfz26_0 := blk_frozen BK347.out 0) | ((with_reducible refine gate_callee (f := 13) rfl ?_); refine goesL_ (some 28) rfl rfl Try.func13 (by kernel_rfl) rfl #[.agg #[.slice A0_0 l0_0.length c0_0]] rfl gmp ?_; (with_reducible refine (laws_toYard.calls k _ _ l0_0 t350 _ ?side1 ?side2 A15.out).mono ?_); (case side1 => exact cdl (Kd.C_below HR0_0.out HB.out)); (case side2 => exact HC0_0.out); rintro e w27 ⟨v351, rfl, ho0, hb⟩; refine ⟨_, rfl, ?_⟩; have n0_ := Aside0.mk (Kd.S_lower ho0 (below_size (bel1 HB GE347))); have n1_ := Aside0.mk (blk_below (g := gb347) (o := .cells #[.slice A0_0 l0_0.length c0_0] 24 (0, 0)) (bkl BK347) hb); have n2_ := Aside0.mk (below_step (bel1 HB GE347) hb); clear BK347; clear HB; have HO352 := n0_; have BK347 := n1_; have HB := n2_; clear n0_ n1_ n2_; (try clear hb); (try clear hb2); (try clear hk); (try clear hi); (try clear ho0)) | ((with_reducible refine gate_callee (f := 14) rfl ?_); refine goesL_ (some 30) rfl rfl Try.func14 (by kernel_rfl) rfl #[.slice A1 l1.length c1] rfl gmp ?_; (with_reducible refine (laws_toContainerS.calls k _ _ l1 t353 _ ?side1 ?side2 A16.out).mono ?_); (case side1 => exact cdl (Kd.C_below HR1.out HB.out)); (case side2 => exact HC1.out); rintro e w28 ⟨v354, rfl, ho0, hb⟩; refine ⟨_, rfl, ?_⟩; have n0_ := Aside0.mk (Kd.S_below (sdl HO352) hb); have n1_ := Aside0.mk (Kd.R_lower ho0 (below_size (bel1 HB GE347))); have n2_ := Aside0.mk (blk_below (g := gb347) (o := .cells #[.slice A0_0 l0_0.length c0_0] 24 (0, 0)) (bkl BK347) hb); have n3_ := Aside0.mk (below_step (bel1 HB GE347) hb); clear HO352; clear BK347; clear HB; have HO352 := n0_; have HO355 := n1_; have BK347 := n2_; have HB := n3_; clear n0_ n1_ n2_ n3_; (try clear hb); (try clear hb2); (try clear hk); (try clear hi); (try clear ho0); obtain ⟨Ao29, co29, eo29⟩ := Kd.S_slice HO352.out; subst eo29; obtain ⟨Ao30, co30, eo30⟩ := Kd.R_slice HO355.out; subst eo30) | ((with_reducible refine gate_callee (f := 18) rfl ?_); refine goesL_ (some 32) rfl rfl Try.func18 (by kernel_rfl) rfl #[.agg #[.slice Ao29 t350.length co29], .slice Ao30 t353.length co30, .int .i64 a2] rfl gmp ?_; (with_reducible refine (spec_WorstStack.calls k _ _ t350 _ _ t353 a2 t356 t357 t358 _ ?side1 ?side2 ?side3 ?side4 A17.out).mono ?_); (case side1 => repeat (first | exact (Kd.S_reads' HO352.out).2.2 | (with_reducible refine Kd.C_alloc ?_ _) | (with_reducible refine Kd.C_drewN ?_ _) | (with_reducible refine Kd.C_drew ?_))); (case side2 => exact (Kd.S_reads' HO352.out).2.1); (case side3 => repeat (first | exact (Kd.R_reads' HO355.out).2.2 | (with_reducible refine Kd.C_alloc ?_ _) | (with_reducible refine Kd.C_drewN ?_ _) | (with_reducible refine Kd.C_drew ?_))); (case side4 => exact (Kd.R_reads' HO355.out).2.1); rintro e w31 ⟨rfl, hb⟩; refine ⟨_, rfl, ?_⟩; have n0_ := Aside0.mk (Kd.S_below (sdl HO352) hb); have n1_ := Aside0.mk (Kd.R_below (rdl HO355) hb); have n2_ := Aside0.mk (blk_below (g := gb347) (o := .cells #[.slice A0_0 l0_0.length c0_0] 24 (0, 0)) (bkl BK347) hb); have n3_ := Aside0.mk (below_step (bel1 HB GE347) hb); clear HO352; clear HO355; clear BK347; clear HB; have HO352 := n0_; have HO355 := n1_; have BK347 := n2_; have HB := n3_; clear n0_ n1_ n2_ n3_; (try clear hb); (try clear hb2); (try clear hk); (try clear hi); have hcz32_0 : w31.cell? ⟨gb347, 0, none⟩ = some (.slice A0_0 l0_0.length c0_0) := (blk_cell BK347.out 0).trans rfl; have hfz32_0 := blk_frozen BK347.out 0) | ((with_reducible refine gate_callee (f := 13) rfl ?_); refine goesL_ (some 37) rfl rfl Try.func13 (by kernel_rfl) rfl #[.agg #[.slice A0_0 l0_0.length c0_0]] rfl gmp ?_; (with_reducible refine (laws_toYard.calls k _ _ l0_0 t359 _ ?side1 ?side2 A18.out).mono ?_); (case side1 => exact cdl (Kd.C_below HR0_0.out HB.out)); (case side2 => exact HC0_0.out); rintro e w33 ⟨v360, rfl, ho0, hb⟩; refine ⟨_, rfl, ?_⟩; have n0_ := Aside0.mk (Kd.S_elder' (sdl HO352) (Kd.S_base ho0) hb); have n1_ := Aside0.mk (Kd.R_below (rdl HO355) hb); have n2_ := Aside0.mk (Kd.S_lower (Kd.S_new' ho0 (Kd.S_lt (sdl HO352))) (below_size (bel1 HB GE347))); have n3_ := Aside0.mk (blk_below (g := gb347) (o := .cells #[.slice A0_0 l0_0.length c0_0] 24 (0, 0)) (bkl BK347) hb); have n4_ := Aside0.mk (below_step (bel1 HB GE347) hb); clear HO352; clear HO355; clear BK347; clear HB; have HO352 := n0_; have HO355 := n1_; have HO361 := n2_; have BK347 := n3_; have HB := n4_; clear n0_ n1_ n2_ n3_ n4_; (try clear hb); (try clear hb2); (try clear hk); (try clear hi); (try clear ho0)) | ((with_reducible refine gate_dst (N := 11) rfl ?_); refine box_event ?hg (N := 11) ?hd (cs := #[.slice none 0 0]) (t := 30) ?hr ?_; (case hd => rfl); (case hg => rfl); (case hr => first | (go_simp; done) | (go_simp; rfl)); intro gb362 hg w34 hbox hb; have n0_ := Aside0.mk (Kd.S_below (sdl HO352) hb); have n1_ := Aside0.mk (Kd.R_below (rdl HO355) hb); have n2_ := Aside0.mk (Kd.S_below (sdl HO361) hb); have n3_ := Aside0.mk (blk_below (g := gb347) (o := .cells #[.slice A0_0 l0_0.length c0_0] 24 (0, 0)) (bkl BK347) hb); have n4_ := Aside0.mk (below_step (bel1 HB GE347) hb); have n5_ := Aside0.mk (hbox); have n6_ := Aside0.mk ((by rw [hg]; exact (below_size (bel1 HB GE347)) : w.heap.size ≤ gb362)); have n7_ := Aside0.mk ((by rw [hg]; exact (below_size (bel1 HB GE347)) : w.heap.size ≤ gb362)); have n8_ := Aside0.mk ((by rw [hg]; exact Nat.ne_of_lt (blk_lt (g := gb347) (o := .cells #[.slice A0_0 l0_0.length c0_0] 24 (0, 0)) (bkl BK347)) : gb347 ≠ gb362)); have n9_ := Aside0.mk ((by rw [hg]; exact Nat.ne_of_gt (blk_lt (g := gb347) (o := .cells #[.slice A0_0 l0_0.length c0_0] 24 (0, 0)) (bkl BK347)) : gb362 ≠ gb347)); clear HO352; clear HO355; clear HO361; clear BK347; clear HB; have HO352 := n0_; have HO355 := n1_; have HO361 := n2_; have BK347 := n3_; have HB := n4_; have BK362 := n5_; have GW362 := n6_; have GE362 := n7_; have NB347_362 := n8_; have NB362_347 := n9_; clear n0_ n1_ n2_ n3_ n4_ n5_ n6_ n7_ n8_ n9_; clear hb hbox hg; obtain ⟨Ao35, co35, eo35⟩ := Kd.S_slice HO361.out; subst eo35; have hnb36 := NB362_347.out; have hnc36 := NB347_362.out; have hcz37_0 : w34.cell? ⟨gb362, 0, none⟩ = some (.slice none 0 0) := (blk_cell BK362.out 0).trans rfl; have hfz37_0 := blk_frozen BK362.out 0) | ((with_reducible refine gate_callee (f := 14) rfl ?_); refine goesL_ (some 39) rfl rfl Try.func14 (by kernel_rfl) rfl #[.slice A1 l1.length c1] rfl gmp ?_; (with_reducible refine (laws_toContainerS.calls k _ _ l1 t363 _ ?side1 ?side2 A19.out).mono ?_); (case side1 => exact Kd.C_below HR1.out (bel2 HB GE347 GE362)); (case side2 => exact HC1.out); rintro e w38 ⟨v364, rfl, ho0, hb⟩; refine ⟨_, rfl, ?_⟩; have n0_ := Aside0.mk (Kd.S_below (by (with_reducible repeat (first | apply Kd.S_alloc | apply Kd.S_drewN | apply Kd.S_drew)); exact (Kd.S_mono (Kd.S_far (p := ⟨gb362, 0, none⟩) (Kd.S_types HO352.out BK362.out (by decide)) (fun _ hk => hk.2) (.slice Ao35 t359.length co35)) (fun _ h_ => h_.1))) hb); have n1_ := Aside0.mk (Kd.R_elder' (by (with_reducible repeat (first | apply Kd.R_alloc | apply Kd.R_drewN | apply Kd.R_drew)); exact (Kd.R_mono (Kd.R_far (p := ⟨gb362, 0, none⟩) (Kd.R_types HO355.out BK362.out (by decide)) (fun _ hk => hk.2) (.slice Ao35 t359.length co35)) (fun _ h_ => h_.1))) (Kd.R_base ho0) hb); have n2_ := Aside0.mk (Kd.S_below (by (with_reducible repeat (first | apply Kd.S_alloc | apply Kd.S_drewN | apply Kd.S_drew)); exact (Kd.S_mono (Kd.S_far (p := ⟨gb362, 0, none⟩) (Kd.S_types HO361.out BK362.out (by decide)) (fun _ hk => hk.2) (.slice Ao35 t359.length co35)) (fun _ h_ => h_.1))) hb); have n3_ := Aside0.mk (Kd.R_lower (Kd.R_new' ho0 (Kd.R_lt (by (with_reducible repeat (first | apply Kd.R_alloc | apply Kd.R_drewN | apply Kd.R_drew)); exact (Kd.R_mono (Kd.R_far (p := ⟨gb362, 0, none⟩) (Kd.R_types HO355.out BK362.out (by decide)) (fun _ hk => hk.2) (.slice Ao35 t359.length co35)) (fun _ h_ => h_.1))))) (below_size (bel2 HB GE347 GE362))); have n4_ := Aside0.mk (blk_below (g := gb347) (o := .cells #[.slice A0_0 l0_0.length c0_0] 24 (0, 0)) (by (with_reducible repeat (first | refine blk_drewN ?_ _ | refine blk_drew ?_ | refine blk_alloc ?_ _)); refine blk_far ?_ NB347_362.out _; (with_reducible repeat (first | refine blk_drewN ?_ _ | refine blk_drew ?_ | refine blk_alloc ?_ _)); exact BK347.out) hb); have n5_ := Aside0.mk (blk_below (g := gb362) (o := .cells #[.slice Ao35 t359.length co35] 30 (0, 0)) (by (with_reducible repeat (first | refine blk_drewN ?_ _ | refine blk_drew ?_ | refine blk_alloc ?_ _)); refine blk_put (cs := #[.slice none 0 0]) ?_ 0 _ rfl; (with_reducible repeat (first | refine blk_drewN ?_ _ | refine blk_drew ?_ | refine blk_alloc ?_ _)); exact BK362.out) hb); have n6_ := Aside0.mk (below_step (bel2 HB GE347 GE362) hb); clear HO352; clear HO355; clear HO361; clear BK347; clear BK362; clear HB; have HO352 := n0_; have HO355 := n1_; have HO361 := n2_; have HO365 := n3_; have BK347 := n4_; have BK362 := n5_; have HB := n6_; clear n0_ n1_ n2_ n3_ n4_ n5_ n6_; (try clear hb); (try clear hb2); (try clear hk); (try clear hi); (try clear ho0); have hcz39_0 : w38.cell? ⟨gb362, 0, none⟩ = some (.slice Ao35 t359.length co35) := (blk_cell BK362.out 0).trans rfl; have hfz39_0 := blk_frozen BK362.out 0; obtain ⟨Ao40, co40, eo40⟩ := Kd.R_slice HO365.out; subst eo40) | ((with_reducible refine gate_callee (f := 19) rfl ?_); refine goesL_ (some 44) rfl rfl Try.func19 (by kernel_rfl) rfl #[.agg #[.slice Ao35 t359.length co35], .slice Ao40 t363.length co40, .int .i64 a2] rfl gmp ?_; (with_reducible refine (impl_WorstStack.calls k _ _ t359 _ _ t363 a2 t366 t367 t368 _ ?side1 ?side2 ?side3 ?side4 A20.out).mono ?_); (case side1 => repeat (first | exact (Kd.S_reads' HO361.out).2.2 | (with_reducible refine Kd.C_alloc ?_ _) | (with_reducible refine Kd.C_drewN ?_ _) | (with_reducible refine Kd.C_drew ?_))); (case side2 => exact (Kd.S_reads' HO361.out).2.1); (case side3 => repeat (first | exact (Kd.R_reads' HO365.out).2.2 | (with_reducible refine Kd.C_alloc ?_ _) | (with_reducible refine Kd.C_drewN ?_ _) | (with_reducible refine Kd.C_drew ?_))); (case side4 => exact (Kd.R_reads' HO365.out).2.1); rintro e w41 ⟨rfl, hb⟩; refine ⟨_, rfl, ?_⟩; have n0_ := Aside0.mk (Kd.S_below (sdl HO352) hb); have n1_ := Aside0.mk (Kd.R_below (rdl HO355) hb); have n2_ := Aside0.mk (Kd.S_below (sdl HO361) hb); have n3_ := Aside0.mk (Kd.R_below (rdl HO365) hb); have n4_ := Aside0.mk (blk_below (g := gb347) (o := .cells #[.slice A0_0 l0_0.length c0_0] 24 (0, 0)) (bkl BK347) hb); have n5_ := Aside0.mk (blk_below (g := gb362) (o := .cells #[.slice Ao35 t359.length co35] 30 (0, 0)) (bkl BK362) hb); have n6_ := Aside0.mk (below_step (bel2 HB GE347 GE362) hb); clear HO352; clear HO355; clear HO361; clear HO365; clear BK347; clear BK362; clear HB; have HO352 := n0_; have HO355 := n1_; have HO361 := n2_; have HO365 := n3_; have BK347 := n4_; have BK362 := n5_; have HB := n6_; clear n0_ n1_ n2_ n3_ n4_ n5_ n6_; (try clear hb); (try clear hb2); (try clear hk); (try clear hi)))
   (try simp only [Act.put, List.setIfInBounds_toArray, List.set_cons_zero, List.set_cons_succ])
   go_cut [60] (fun v60 wc => ∃ (kq : Nat) (x60_20 : Bool), v60 = .bool x60_20 ∧ Aside0 (laws_FnExactWorstStack.j0 kq l1 t363 x60_20 l0_0 t359 = some r) ∧ Aside0 (kq ≤ k) ∧ Aside0 (Kd.R k69 69 wc w.heap.size (fun _ => True) (.slice Ao40 t363.length co40) t363) ∧ Aside0 (Kd.S (Kd.slice 3 (Kd.int .i64)) 39 wc w.heap.size (fun _ => True) (.slice Ao35 t359.length co35) t359) ∧ Aside0 (wc.heap[gb347]? = some (.cells #[(.slice A0_0 l0_0.length c0_0)] 24 (0, 0))) ∧ Aside0 (wc.heap[gb362]? = some (.cells #[(.slice Ao35 t359.length co35)] 30 (0, 0))) ∧ Aside0 (Below w.heap.size w wc))
   case first =>
    have H := HC21.out
    clear HC21
    by_cases c42 : t366 = t356
    ·rw [if_pos c42] at H
     have c42b0 : (t366 == t356) = true := beq_iff_eq.mpr c42
     have c42b1 : (t366 != t356) = false := bne_eq_false_iff_eq.mpr c42
     clear c42
     (first | rw [c42b0] | (simp only [i64_w, i32_w]; rw [c42b0]) | skip)
     by_cases c43 : t367 = t357
     ·rw [if_pos c43] at H
      have c43b0 : (t367 == t357) = true := beq_iff_eq.mpr c43
      have c43b1 : (t367 != t357) = false := bne_eq_false_iff_eq.mpr c43
      clear c43
      have H' := Aside0.mk H
      clear H
      go_wp2
      go_meet
      case rel => exact ⟨_, ((t368 != t358)), (by first | rfl | (simp; done) | (simp [*]; done)), H', ⟨by first | omega | exact Nat.le_refl _⟩, ⟨by (with_reducible repeat (first | apply Kd.R_alloc | apply Kd.R_drewN | apply Kd.R_drew)); exact Kd.R_mono HO365.out (fun _ hk => trivial)⟩, ⟨by (with_reducible repeat (first | apply Kd.S_alloc | apply Kd.S_drewN | apply Kd.S_drew)); exact Kd.S_mono HO361.out (fun _ hk => trivial)⟩, ⟨bkl BK347⟩, ⟨bkl BK362⟩, ⟨bel2 HB GE347 GE362⟩⟩
     ·rw [if_neg c43] at H
      have c43b0 : (t367 == t357) = false := beq_eq_false_iff_ne.mpr c43
      have c43b1 : (t367 != t357) = true := bne_iff_ne.mpr c43
      have H' := Aside0.mk H
      clear H
      go_wp2
      go_meet
      case rel => exact ⟨_, (true), (by first | rfl | (simp; done) | (simp [*]; done)), H', ⟨by first | omega | exact Nat.le_refl _⟩, ⟨by (with_reducible repeat (first | apply Kd.R_alloc | apply Kd.R_drewN | apply Kd.R_drew)); exact Kd.R_mono HO365.out (fun _ hk => trivial)⟩, ⟨by (with_reducible repeat (first | apply Kd.S_alloc | apply Kd.S_drewN | apply Kd.S_drew)); exact Kd.S_mono HO361.out (fun _ hk => trivial)⟩, ⟨bkl BK347⟩, ⟨bkl BK362⟩, ⟨bel2 HB GE347 GE362⟩⟩
    ·rw [if_neg c42] at H
     have c42b0 : (t366 == t356) = false := beq_eq_false_iff_ne.mpr c42
     have c42b1 : (t366 != t356) = true := bne_iff_ne.mpr c42
     (first | rw [c42b0] | (simp only [i64_w, i32_w]; rw [c42b0]) | skip)
     have H' := Aside0.mk H
     clear H
     go_wp2
     go_meet
     case rel => exact ⟨_, (true), (by first | rfl | (simp; done) | (simp [*]; done)), H', ⟨by first | omega | exact Nat.le_refl _⟩, ⟨by (with_reducible repeat (first | apply Kd.R_alloc | apply Kd.R_drewN | apply Kd.R_drew)); exact Kd.R_mono HO365.out (fun _ hk => trivial)⟩, ⟨by (with_reducible repeat (first | apply Kd.S_alloc | apply Kd.S_drewN | apply Kd.S_drew)); exact Kd.S_mono HO361.out (fun _ hk => trivial)⟩, ⟨bkl BK347⟩, ⟨bkl BK362⟩, ⟨bel2 HB GE347 GE362⟩⟩
   case rest =>
    clear HC21
    try clear c1
    try clear p2
    try clear c3
    try clear c4
    try clear c5
    try clear c5b0
    try clear c10
    try clear c10b0
    try clear c11
    try clear c13
    try clear c14
    try clear c18
    try clear c19
    try clear c36
    try clear c42
    try clear c42b0
    try clear c42b1
    try clear c43
    try clear c43b0
    try clear c43b1
    try clear hcz12_0
    try clear hcz23_0
    try clear hcz26_0
    try clear hcz32_0
    try clear hcz37_0
    try clear hcz39_0
    try clear hcz7_0
    try clear hfz12_0
    try clear hfz23_0
    try clear hfz26_0
    try clear hfz32_0
    try clear hfz37_0
    try clear hfz39_0
    try clear hfz7_0
    obtain ⟨kq, x60_20, rfl, HA, HJ20, HO_12, HO_363000, BK347, BK362, HB⟩ := hcut
    cases kq with
    | zero => exact absurd HA.out (by simp [laws_FnExactWorstStack.j0])
    | succ kj20 =>
     have H := HA.out
     clear HA
     simp only [laws_FnExactWorstStack.j0] at H
     by_cases c44 : x60_20 = true
     ·subst c44
      have H1 : (some false) = some r := by rw [if_pos rfl] at H; exact H
      clear H
      have H := H1
      clear H1
      obtain rfl := Option.some.inj H
      go_wp2
      go_ret
      exact ⟨by first | rfl | (simp [errW_none, errW_some] <;> rfl) | (simp [*, errW_none, errW_some] <;> rfl), bel2 HB GE347 GE362⟩
     ·replace c44 := Bool.eq_false_iff.mpr c44
      subst c44
      have H1 : ((laws_toYard.f kj20 l0_0).bind fun t369 => ((laws_eqYard.f kj20 t359 t369).bind fun t372 => (if t372 = true then ((laws_toContainerS.f kj20 l1).bind fun t373 => ((laws_eqContainerS.f kj20 t363 t373).bind fun t376 => (if t376 = true then (some true) else (some false)))) else (some false)))) = some r := by rw [if_neg (show ¬ (false = true) by decide)] at H; exact H
      clear H
      have H := H1
      clear H1
      replace H := Option.bind_eq_some_iff.mp H
      obtain ⟨t369, A450, H⟩ := H
      replace H : ((laws_eqYard.f kj20 t359 t369).bind fun t372 => (if t372 = true then ((laws_toContainerS.f kj20 l1).bind fun t373 => ((laws_eqContainerS.f kj20 t363 t373).bind fun t376 => (if t376 = true then (some true) else (some false)))) else (some false))) = some r := H
      have A45 := Aside0.mk A450
      clear A450
      replace H := Option.bind_eq_some_iff.mp H
      obtain ⟨t372, A460, H⟩ := H
      replace H : (if t372 = true then ((laws_toContainerS.f kj20 l1).bind fun t373 => ((laws_eqContainerS.f kj20 t363 t373).bind fun t376 => (if t376 = true then (some true) else (some false)))) else (some false)) = some r := H
      have A46 := Aside0.mk A460
      clear A460
      by_cases c47 : t372 = true
      ·subst c47
       have H1 : ((laws_toContainerS.f kj20 l1).bind fun t373 => ((laws_eqContainerS.f kj20 t363 t373).bind fun t376 => (if t376 = true then (some true) else (some false)))) = some r := by rw [if_pos rfl] at H; exact H
       clear H
       have H := H1
       clear H1
       replace H := Option.bind_eq_some_iff.mp H
       obtain ⟨t373, A480, H⟩ := H
       replace H : ((laws_eqContainerS.f kj20 t363 t373).bind fun t376 => (if t376 = true then (some true) else (some false))) = some r := H
       have A48 := Aside0.mk A480
       clear A480
       replace H := Option.bind_eq_some_iff.mp H
       obtain ⟨t376, A490, H⟩ := H
       replace H : (if t376 = true then (some true) else (some false)) = some r := H
       have A49 := Aside0.mk A490
       clear A490
       by_cases c50 : t376 = true
       ·subst c50
        have H1 : (some true) = some r := by rw [if_pos rfl] at H; exact H
        clear H
        have H := H1
        clear H1
        obtain rfl := Option.some.inj H
        try go_wp2
        have n0_ := Aside0.mk (Kd.R_drew HO_12.out)
        have n1_ := Aside0.mk (Kd.S_drew HO_363000.out)
        have n2_ := Aside0.mk (blk_drew BK347.out)
        have n3_ := Aside0.mk (blk_drew BK362.out)
        have n4_ := Aside0.mk (below_drew1 HB.out)
        clear HO_12
        clear HO_363000
        clear BK347
        clear BK362
        clear HB
        have HO_12 := n0_
        have HO_363000 := n1_
        have BK347 := n2_
        have BK362 := n3_
        have HB := n4_
        clear n0_ n1_ n2_ n3_ n4_
        refine start_ (n := 5) (S := fun w' => w'.cell? ⟨gb362, 0, none⟩ = some (.slice Ao35 t359.length co35) ∧ w'.cell? ⟨gb347, 0, none⟩ = some (.slice A0_0 l0_0.length c0_0)) (ds := []) #[false, false, false, false, false] (by kernel_rfl) rfl rfl ⟨(blk_cell BK362.out 0).trans rfl, (blk_cell BK347.out 0).trans rfl⟩ (fun hHeld => ?_)
        generalize wc.drew = w51 at HO_12 HO_363000 BK347 BK362 HB hHeld ⊢
        refine take_ (i := 0) (N := some 61) (v := ?_) (a' := ?_) #[true, false, false, false, false] rfl rfl (by kernel_rfl) (fun _ _ _ h => h) (Or.inl ⟨by rfl, ?_⟩) hHeld ?_ ?_
        rotate_left
        ·rintro w' ⟨s0, s1⟩
         go_simp
         with_reducible rfl
        rotate_left
        ·simp only [Act.put, List.setIfInBounds_toArray, List.set_cons_zero, List.set_cons_succ, i64_w, i32_w]
         rfl
        refine take_ (i := 1) (N := some 62) (v := ?_) (a' := ?_) #[true, true, false, false, false] rfl rfl (by kernel_rfl) (fun _ _ _ h => h) (Or.inl ⟨by rfl, ?_⟩) hHeld ?_ ?_
        rotate_left
        ·rintro w' ⟨s0, s1⟩
         go_simp
         with_reducible rfl
        rotate_left
        ·simp only [Act.put, List.setIfInBounds_toArray, List.set_cons_zero, List.set_cons_succ, i64_w, i32_w]
         rfl
        refine one_ (i := 2) (N := some 63) #[true, true, true, false, false] rfl rfl (by kernel_rfl) (by decide) (fun K hK => ?_)
        refine goes_ Try.func13 (by kernel_rfl) rfl #[.agg #[.slice A0_0 l0_0.length c0_0]] (by rfl) rfl rfl gmp ?_
        with_reducible refine (laws_toYard.calls kj20 _ _ l0_0 t369 _ ?side1 ?side2 A45.out).mono ?_
        (case side1 => exact cdl (Kd.C_below HR0_0.out HB.out))
        (case side2 => exact HC0_0.out)
        rintro e w52 ⟨v370, rfl, ho0, hb⟩
        refine ⟨_, rfl, ?_⟩
        have n0_ := Aside0.mk (Kd.R_below (rdl HO_12) hb)
        have n1_ := Aside0.mk (Kd.S_elder' (sdl HO_363000) (Kd.S_base ho0) hb)
        have n2_ := Aside0.mk (Kd.S_lower (Kd.S_new' ho0 (Kd.S_lt (sdl HO_363000))) (below_size (bel2 HB GE347 GE362)))
        have n3_ := Aside0.mk (blk_below (g := gb347) (o := .cells #[.slice A0_0 l0_0.length c0_0] 24 (0, 0)) (bkl BK347) hb)
        have n4_ := Aside0.mk (blk_below (g := gb362) (o := .cells #[.slice Ao35 t359.length co35] 30 (0, 0)) (bkl BK362) hb)
        have n5_ := Aside0.mk (below_step (bel2 HB GE347 GE362) hb)
        clear HO_12
        clear HO_363000
        clear BK347
        clear BK362
        clear HB
        have HO_12 := n0_
        have HO_363000 := n1_
        have HO371 := n2_
        have BK347 := n3_
        have BK362 := n4_
        have HB := n5_
        clear n0_ n1_ n2_ n3_ n4_ n5_
        (try clear hb)
        (try clear hb2)
        (try clear hk)
        (try clear hi)
        (try clear ho0)
        obtain ⟨Ao53, co53, eo53⟩ := Kd.S_slice HO371.out
        (first | subst eo53 | (injection eo53 with f1_ f2_ f3_; have f4_ := f1_.symm; have f5_ := f3_.symm; clear f1_ f2_ f3_; subst f4_; subst f5_))
        refine hK.out _ _ ⟨(blk_cell BK362.out 0).trans rfl, (blk_cell BK347.out 0).trans rfl⟩ (fun hHeld => ?_)
        clear hK K
        refine norm_ (a' := ?_) ?_ ?_
        rotate_left
        ·show Act.put _ (some 63) _ = _
         simp only [Act.put, List.setIfInBounds_toArray, List.set_cons_zero, List.set_cons_succ, i64_w, i32_w]
         rfl
        refine one_ (i := 3) (N := some 64) #[true, true, true, true, false] rfl rfl (by kernel_rfl) (by decide) (fun K hK => ?_)
        refine goes_ Try.func16 (by kernel_rfl) rfl #[.agg #[.slice Ao35 t359.length co35], .agg #[.slice Ao53 t369.length co53]] (by rfl) rfl rfl gmp ?_
        with_reducible refine (laws_eqYard.calls kj20 _ _ t359 _ _ t369 true _ ?side1 ?side2 ?side3 ?side4 A46.out).mono ?_
        (case side1 => repeat (first | exact (Kd.S_reads' HO_363000.out).2.2 | (with_reducible refine Kd.C_alloc ?_ _) | (with_reducible refine Kd.C_drewN ?_ _) | (with_reducible refine Kd.C_drew ?_)))
        (case side2 => exact (Kd.S_reads' HO_363000.out).2.1)
        (case side3 => repeat (first | exact (Kd.S_reads' HO371.out).2.2 | (with_reducible refine Kd.C_alloc ?_ _) | (with_reducible refine Kd.C_drewN ?_ _) | (with_reducible refine Kd.C_drew ?_)))
        (case side4 => exact (Kd.S_reads' HO371.out).2.1)
        rintro e w54 ⟨rfl, hb⟩
        refine ⟨_, rfl, ?_⟩
        have n0_ := Aside0.mk (Kd.R_below (rdl HO_12) hb)
        have n1_ := Aside0.mk (Kd.S_below (sdl HO_363000) hb)
        have n2_ := Aside0.mk (Kd.S_below (sdl HO371) hb)
        have n3_ := Aside0.mk (blk_below (g := gb347) (o := .cells #[.slice A0_0 l0_0.length c0_0] 24 (0, 0)) (bkl BK347) hb)
        have n4_ := Aside0.mk (blk_below (g := gb362) (o := .cells #[.slice Ao35 t359.length co35] 30 (0, 0)) (bkl BK362) hb)
        have n5_ := Aside0.mk (below_step (bel2 HB GE347 GE362) hb)
        clear HO_12
        clear HO_363000
        clear HO371
        clear BK347
        clear BK362
        clear HB
        have HO_12 := n0_
        have HO_363000 := n1_
        have HO371 := n2_
        have BK347 := n3_
        have BK362 := n4_
        have HB := n5_
        clear n0_ n1_ n2_ n3_ n4_ n5_
        (try clear hb)
        (try clear hb2)
        (try clear hk)
        (try clear hi)
        refine hK.out _ _ ⟨(blk_cell BK362.out 0).trans rfl, (blk_cell BK347.out 0).trans rfl⟩ (fun hHeld => ?_)
        clear hK K
        refine norm_ (a' := ?_) ?_ ?_
        rotate_left
        ·show Act.put _ (some 64) _ = _
         simp only [Act.put, List.setIfInBounds_toArray, List.set_cons_zero, List.set_cons_succ, i64_w, i32_w]
         rfl
        refine pure_ (i := 4) (N := some 65) (v := ?_) (a' := ?_) #[true, true, true, true, true] rfl rfl (by kernel_rfl) (fun _ _ _ h => h) (Or.inl ⟨by rfl, ?_⟩) ?_ ?_
        rotate_left
        ·intro w'
         go_simp
         with_reducible rfl
        rotate_left
        ·simp only [Act.put, List.setIfInBounds_toArray, List.set_cons_zero, List.set_cons_succ, i64_w, i32_w]
         rfl
        refine done_ (by kernel_rfl) ?_
        try go_wp2_with (first | ((with_reducible refine gate_callee (f := 14) rfl ?_); refine goesL_ (some 68) rfl rfl Try.func14 (by kernel_rfl) rfl #[.slice A1 l1.length c1] rfl gmp ?_; (with_reducible refine (laws_toContainerS.calls kj20 _ _ l1 t373 _ ?side1 ?side2 A48.out).mono ?_); (case side1 => exact cdl (Kd.C_below HR1.out HB.out)); (case side2 => exact HC1.out); rintro e w55 ⟨v374, rfl, ho0, hb⟩; refine ⟨_, rfl, ?_⟩; have n0_ := Aside0.mk (Kd.R_elder' (rdl HO_12) (Kd.R_base ho0) hb); have n1_ := Aside0.mk (Kd.S_below (sdl HO_363000) hb); have n2_ := Aside0.mk (Kd.S_below (sdl HO371) hb); have n3_ := Aside0.mk (Kd.R_lower (Kd.R_new' ho0 (Kd.R_lt (rdl HO_12))) (below_size (bel2 HB GE347 GE362))); have n4_ := Aside0.mk (blk_below (g := gb347) (o := .cells #[.slice A0_0 l0_0.length c0_0] 24 (0, 0)) (bkl BK347) hb); have n5_ := Aside0.mk (blk_below (g := gb362) (o := .cells #[.slice Ao35 t359.length co35] 30 (0, 0)) (bkl BK362) hb); have n6_ := Aside0.mk (below_step (bel2 HB GE347 GE362) hb); clear HO_12; clear HO_363000; clear HO371; clear BK347; clear BK362; clear HB; have HO_12 := n0_; have HO_363000 := n1_; have HO371 := n2_; have HO375 := n3_; have BK347 := n4_; have BK362 := n5_; have HB := n6_; clear n0_ n1_ n2_ n3_ n4_ n5_ n6_; (try clear hb); (try clear hb2); (try clear hk); (try clear hi); (try clear ho0); obtain ⟨Ao56, co56, eo56⟩ := Kd.R_slice HO375.out; subst eo56) | ((with_reducible refine gate_callee (f := 17) rfl ?_); refine goesL_ (some 69) rfl rfl Try.func17 (by kernel_rfl) rfl #[.slice Ao40 t363.length co40, .slice Ao56 t373.length co56] rfl gmp ?_; (with_reducible refine (laws_eqContainerS.calls kj20 _ _ t363 _ _ t373 true _ ?side1 ?side2 ?side3 ?side4 A49.out).mono ?_); (case side1 => repeat (first | exact (Kd.R_reads' HO_12.out).2.2 | (with_reducible refine Kd.C_alloc ?_ _) | (with_reducible refine Kd.C_drewN ?_ _) | (with_reducible refine Kd.C_drew ?_))); (case side2 => exact (Kd.R_reads' HO_12.out).2.1); (case side3 => repeat (first | exact (Kd.R_reads' HO375.out).2.2 | (with_reducible refine Kd.C_alloc ?_ _) | (with_reducible refine Kd.C_drewN ?_ _) | (with_reducible refine Kd.C_drew ?_))); (case side4 => exact (Kd.R_reads' HO375.out).2.1); rintro e w57 ⟨rfl, hb⟩; refine ⟨_, rfl, ?_⟩; have n0_ := Aside0.mk (Kd.R_below (rdl HO_12) hb); have n1_ := Aside0.mk (Kd.S_below (sdl HO_363000) hb); have n2_ := Aside0.mk (Kd.S_below (sdl HO371) hb); have n3_ := Aside0.mk (Kd.R_below (rdl HO375) hb); have n4_ := Aside0.mk (blk_below (g := gb347) (o := .cells #[.slice A0_0 l0_0.length c0_0] 24 (0, 0)) (bkl BK347) hb); have n5_ := Aside0.mk (blk_below (g := gb362) (o := .cells #[.slice Ao35 t359.length co35] 30 (0, 0)) (bkl BK362) hb); have n6_ := Aside0.mk (below_step (bel2 HB GE347 GE362) hb); clear HO_12; clear HO_363000; clear HO371; clear HO375; clear BK347; clear BK362; clear HB; have HO_12 := n0_; have HO_363000 := n1_; have HO371 := n2_; have HO375 := n3_; have BK347 := n4_; have BK362 := n5_; have HB := n6_; clear n0_ n1_ n2_ n3_ n4_ n5_ n6_; (try clear hb); (try clear hb2); (try clear hk); (try clear hi)))
        go_ret
        exact ⟨by first | rfl | (simp [errW_none, errW_some] <;> rfl) | (simp [*, errW_none, errW_some] <;> rfl), bel2 HB GE347 GE362⟩
       ·replace c50 := Bool.eq_false_iff.mpr c50
        subst c50
        have H1 : (some false) = some r := by rw [if_neg (show ¬ (false = true) by decide)] at H; exact H
        clear H
        have H := H1
        clear H1
        obtain rfl := Option.some.inj H
        try go_wp2
        have n0_ := Aside0.mk (Kd.R_drew HO_12.out)
        have n1_ := Aside0.mk (Kd.S_drew HO_363000.out)
        have n2_ := Aside0.mk (blk_drew BK347.out)
        have n3_ := Aside0.mk (blk_drew BK362.out)
        have n4_ := Aside0.mk (below_drew1 HB.out)
        clear HO_12
        clear HO_363000
        clear BK347
        clear BK362
        clear HB
        have HO_12 := n0_
        have HO_363000 := n1_
        have BK347 := n2_
        have BK362 := n3_
        have HB := n4_
        clear n0_ n1_ n2_ n3_ n4_
        refine start_ (n := 5) (S := fun w' => w'.cell? ⟨gb362, 0, none⟩ = some (.slice Ao35 t359.length co35) ∧ w'.cell? ⟨gb347, 0, none⟩ = some (.slice A0_0 l0_0.length c0_0)) (ds := []) #[false, false, false, false, false] (by kernel_rfl) rfl rfl ⟨(blk_cell BK362.out 0).trans rfl, (blk_cell BK347.out 0).trans rfl⟩ (fun hHeld => ?_)
        generalize wc.drew = w58 at HO_12 HO_363000 BK347 BK362 HB hHeld ⊢
        refine take_ (i := 0) (N := some 61) (v := ?_) (a' := ?_) #[true, false, false, false, false] rfl rfl (by kernel_rfl) (fun _ _ _ h => h) (Or.inl ⟨by rfl, ?_⟩) hHeld ?_ ?_
        rotate_left
        ·rintro w' ⟨s0, s1⟩
         go_simp
         with_reducible rfl
        rotate_left
        ·simp only [Act.put, List.setIfInBounds_toArray, List.set_cons_zero, List.set_cons_succ, i64_w, i32_w]
         rfl
        refine take_ (i := 1) (N := some 62) (v := ?_) (a' := ?_) #[true, true, false, false, false] rfl rfl (by kernel_rfl) (fun _ _ _ h => h) (Or.inl ⟨by rfl, ?_⟩) hHeld ?_ ?_
        rotate_left
        ·rintro w' ⟨s0, s1⟩
         go_simp
         with_reducible rfl
        rotate_left
        ·simp only [Act.put, List.setIfInBounds_toArray, List.set_cons_zero, List.set_cons_succ, i64_w, i32_w]
         rfl
        refine one_ (i := 2) (N := some 63) #[true, true, true, false, false] rfl rfl (by kernel_rfl) (by decide) (fun K hK => ?_)
        refine goes_ Try.func13 (by kernel_rfl) rfl #[.agg #[.slice A0_0 l0_0.length c0_0]] (by rfl) rfl rfl gmp ?_
        with_reducible refine (laws_toYard.calls kj20 _ _ l0_0 t369 _ ?side1 ?side2 A45.out).mono ?_
        (case side1 => exact cdl (Kd.C_below HR0_0.out HB.out))
        (case side2 => exact HC0_0.out)
        rintro e w59 ⟨v370, rfl, ho0, hb⟩
        refine ⟨_, rfl, ?_⟩
        have n0_ := Aside0.mk (Kd.R_below (rdl HO_12) hb)
        have n1_ := Aside0.mk (Kd.S_elder' (sdl HO_363000) (Kd.S_base ho0) hb)
        have n2_ := Aside0.mk (Kd.S_lower (Kd.S_new' ho0 (Kd.S_lt (sdl HO_363000))) (below_size (bel2 HB GE347 GE362)))
        have n3_ := Aside0.mk (blk_below (g := gb347) (o := .cells #[.slice A0_0 l0_0.length c0_0] 24 (0, 0)) (bkl BK347) hb)
        have n4_ := Aside0.mk (blk_below (g := gb362) (o := .cells #[.slice Ao35 t359.length co35] 30 (0, 0)) (bkl BK362) hb)
        have n5_ := Aside0.mk (below_step (bel2 HB GE347 GE362) hb)
        clear HO_12
        clear HO_363000
        clear BK347
        clear BK362
        clear HB
        have HO_12 := n0_
        have HO_363000 := n1_
        have HO371 := n2_
        have BK347 := n3_
        have BK362 := n4_
        have HB := n5_
        clear n0_ n1_ n2_ n3_ n4_ n5_
        (try clear hb)
        (try clear hb2)
        (try clear hk)
        (try clear hi)
        (try clear ho0)
        obtain ⟨Ao60, co60, eo60⟩ := Kd.S_slice HO371.out
        (first | subst eo60 | (injection eo60 with f1_ f2_ f3_; have f4_ := f1_.symm; have f5_ := f3_.symm; clear f1_ f2_ f3_; subst f4_; subst f5_))
        refine hK.out _ _ ⟨(blk_cell BK362.out 0).trans rfl, (blk_cell BK347.out 0).trans rfl⟩ (fun hHeld => ?_)
        clear hK K
        refine norm_ (a' := ?_) ?_ ?_
        rotate_left
        ·show Act.put _ (some 63) _ = _
         simp only [Act.put, List.setIfInBounds_toArray, List.set_cons_zero, List.set_cons_succ, i64_w, i32_w]
         rfl
        refine one_ (i := 3) (N := some 64) #[true, true, true, true, false] rfl rfl (by kernel_rfl) (by decide) (fun K hK => ?_)
        refine goes_ Try.func16 (by kernel_rfl) rfl #[.agg #[.slice Ao35 t359.length co35], .agg #[.slice Ao60 t369.length co60]] (by rfl) rfl rfl gmp ?_
        with_reducible refine (laws_eqYard.calls kj20 _ _ t359 _ _ t369 true _ ?side1 ?side2 ?side3 ?side4 A46.out).mono ?_
        (case side1 => repeat (first | exact (Kd.S_reads' HO_363000.out).2.2 | (with_reducible refine Kd.C_alloc ?_ _) | (with_reducible refine Kd.C_drewN ?_ _) | (with_reducible refine Kd.C_drew ?_)))
        (case side2 => exact (Kd.S_reads' HO_363000.out).2.1)
        (case side3 => repeat (first | exact (Kd.S_reads' HO371.out).2.2 | (with_reducible refine Kd.C_alloc ?_ _) | (with_reducible refine Kd.C_drewN ?_ _) | (with_reducible refine Kd.C_drew ?_)))
        (case side4 => exact (Kd.S_reads' HO371.out).2.1)
        rintro e w61 ⟨rfl, hb⟩
        refine ⟨_, rfl, ?_⟩
        have n0_ := Aside0.mk (Kd.R_below (rdl HO_12) hb)
        have n1_ := Aside0.mk (Kd.S_below (sdl HO_363000) hb)
        have n2_ := Aside0.mk (Kd.S_below (sdl HO371) hb)
        have n3_ := Aside0.mk (blk_below (g := gb347) (o := .cells #[.slice A0_0 l0_0.length c0_0] 24 (0, 0)) (bkl BK347) hb)
        have n4_ := Aside0.mk (blk_below (g := gb362) (o := .cells #[.slice Ao35 t359.length co35] 30 (0, 0)) (bkl BK362) hb)
        have n5_ := Aside0.mk (below_step (bel2 HB GE347 GE362) hb)
        clear HO_12
        clear HO_363000
        clear HO371
        clear BK347
        clear BK362
        clear HB
        have HO_12 := n0_
        have HO_363000 := n1_
        have HO371 := n2_
        have BK347 := n3_
        have BK362 := n4_
        have HB := n5_
        clear n0_ n1_ n2_ n3_ n4_ n5_
        (try clear hb)
        (try clear hb2)
        (try clear hk)
        (try clear hi)
        refine hK.out _ _ ⟨(blk_cell BK362.out 0).trans rfl, (blk_cell BK347.out 0).trans rfl⟩ (fun hHeld => ?_)
        clear hK K
        refine norm_ (a' := ?_) ?_ ?_
        rotate_left
        ·show Act.put _ (some 64) _ = _
         simp only [Act.put, List.setIfInBounds_toArray, List.set_cons_zero, List.set_cons_succ, i64_w, i32_w]
         rfl
        refine pure_ (i := 4) (N := some 65) (v := ?_) (a' := ?_) #[true, true, true, true, true] rfl rfl (by kernel_rfl) (fun _ _ _ h => h) (Or.inl ⟨by rfl, ?_⟩) ?_ ?_
        rotate_left
        ·intro w'
         go_simp
         with_reducible rfl
        rotate_left
        ·simp only [Act.put, List.setIfInBounds_toArray, List.set_cons_zero, List.set_cons_succ, i64_w, i32_w]
         rfl
        refine done_ (by kernel_rfl) ?_
        try go_wp2_with (first | ((with_reducible refine gate_callee (f := 14) rfl ?_); refine goesL_ (some 68) rfl rfl Try.func14 (by kernel_rfl) rfl #[.slice A1 l1.length c1] rfl gmp ?_; (with_reducible refine (laws_toContainerS.calls kj20 _ _ l1 t373 _ ?side1 ?side2 A48.out).mono ?_); (case side1 => exact cdl (Kd.C_below HR1.out HB.out)); (case side2 => exact HC1.out); rintro e w62 ⟨v374, rfl, ho0, hb⟩; refine ⟨_, rfl, ?_⟩; have n0_ := Aside0.mk (Kd.R_elder' (rdl HO_12) (Kd.R_base ho0) hb); have n1_ := Aside0.mk (Kd.S_below (sdl HO_363000) hb); have n2_ := Aside0.mk (Kd.S_below (sdl HO371) hb); have n3_ := Aside0.mk (Kd.R_lower (Kd.R_new' ho0 (Kd.R_lt (rdl HO_12))) (below_size (bel2 HB GE347 GE362))); have n4_ := Aside0.mk (blk_below (g := gb347) (o := .cells #[.slice A0_0 l0_0.length c0_0] 24 (0, 0)) (bkl BK347) hb); have n5_ := Aside0.mk (blk_below (g := gb362) (o := .cells #[.slice Ao35 t359.length co35] 30 (0, 0)) (bkl BK362) hb); have n6_ := Aside0.mk (below_step (bel2 HB GE347 GE362) hb); clear HO_12; clear HO_363000; clear HO371; clear BK347; clear BK362; clear HB; have HO_12 := n0_; have HO_363000 := n1_; have HO371 := n2_; have HO375 := n3_; have BK347 := n4_; have BK362 := n5_; have HB := n6_; clear n0_ n1_ n2_ n3_ n4_ n5_ n6_; (try clear hb); (try clear hb2); (try clear hk); (try clear hi); (try clear ho0); obtain ⟨Ao63, co63, eo63⟩ := Kd.R_slice HO375.out; subst eo63) | ((with_reducible refine gate_callee (f := 17) rfl ?_); refine goesL_ (some 69) rfl rfl Try.func17 (by kernel_rfl) rfl #[.slice Ao40 t363.length co40, .slice Ao63 t373.length co63] rfl gmp ?_; (with_reducible refine (laws_eqContainerS.calls kj20 _ _ t363 _ _ t373 false _ ?side1 ?side2 ?side3 ?side4 A49.out).mono ?_); (case side1 => repeat (first | exact (Kd.R_reads' HO_12.out).2.2 | (with_reducible refine Kd.C_alloc ?_ _) | (with_reducible refine Kd.C_drewN ?_ _) | (with_reducible refine Kd.C_drew ?_))); (case side2 => exact (Kd.R_reads' HO_12.out).2.1); (case side3 => repeat (first | exact (Kd.R_reads' HO375.out).2.2 | (with_reducible refine Kd.C_alloc ?_ _) | (with_reducible refine Kd.C_drewN ?_ _) | (with_reducible refine Kd.C_drew ?_))); (case side4 => exact (Kd.R_reads' HO375.out).2.1); rintro e w64 ⟨rfl, hb⟩; refine ⟨_, rfl, ?_⟩; have n0_ := Aside0.mk (Kd.R_below (rdl HO_12) hb); have n1_ := Aside0.mk (Kd.S_below (sdl HO_363000) hb); have n2_ := Aside0.mk (Kd.S_below (sdl HO371) hb); have n3_ := Aside0.mk (Kd.R_below (rdl HO375) hb); have n4_ := Aside0.mk (blk_below (g := gb347) (o := .cells #[.slice A0_0 l0_0.length c0_0] 24 (0, 0)) (bkl BK347) hb); have n5_ := Aside0.mk (blk_below (g := gb362) (o := .cells #[.slice Ao35 t359.length co35] 30 (0, 0)) (bkl BK362) hb); have n6_ := Aside0.mk (below_step (bel2 HB GE347 GE362) hb); clear HO_12; clear HO_363000; clear HO371; clear HO375; clear BK347; clear BK362; clear HB; have HO_12 := n0_; have HO_363000 := n1_; have HO371 := n2_; have HO375 := n3_; have BK347 := n4_; have BK362 := n5_; have HB := n6_; clear n0_ n1_ n2_ n3_ n4_ n5_ n6_; (try clear hb); (try clear hb2); (try clear hk); (try clear hi)))
        go_ret
        exact ⟨by first | rfl | (simp [errW_none, errW_some] <;> rfl) | (simp [*, errW_none, errW_some] <;> rfl), bel2 HB GE347 GE362⟩
      ·replace c47 := Bool.eq_false_iff.mpr c47
       subst c47
       have H1 : (some false) = some r := by rw [if_neg (show ¬ (false = true) by decide)] at H; exact H
       clear H
       have H := H1
       clear H1
       obtain rfl := Option.some.inj H
       try go_wp2
       have n0_ := Aside0.mk (Kd.R_drew HO_12.out)
       have n1_ := Aside0.mk (Kd.S_drew HO_363000.out)
       have n2_ := Aside0.mk (blk_drew BK347.out)
       have n3_ := Aside0.mk (blk_drew BK362.out)
       have n4_ := Aside0.mk (below_drew1 HB.out)
       clear HO_12
       clear HO_363000
       clear BK347
       clear BK362
       clear HB
       have HO_12 := n0_
       have HO_363000 := n1_
       have BK347 := n2_
       have BK362 := n3_
       have HB := n4_
       clear n0_ n1_ n2_ n3_ n4_
       refine start_ (n := 5) (S := fun w' => w'.cell? ⟨gb362, 0, none⟩ = some (.slice Ao35 t359.length co35) ∧ w'.cell? ⟨gb347, 0, none⟩ = some (.slice A0_0 l0_0.length c0_0)) (ds := []) #[false, false, false, false, false] (by kernel_rfl) rfl rfl ⟨(blk_cell BK362.out 0).trans rfl, (blk_cell BK347.out 0).trans rfl⟩ (fun hHeld => ?_)
       generalize wc.drew = w65 at HO_12 HO_363000 BK347 BK362 HB hHeld ⊢
       refine take_ (i := 0) (N := some 61) (v := ?_) (a' := ?_) #[true, false, false, false, false] rfl rfl (by kernel_rfl) (fun _ _ _ h => h) (Or.inl ⟨by rfl, ?_⟩) hHeld ?_ ?_
       rotate_left
       ·rintro w' ⟨s0, s1⟩
        go_simp
        with_reducible rfl
       rotate_left
       ·simp only [Act.put, List.setIfInBounds_toArray, List.set_cons_zero, List.set_cons_succ, i64_w, i32_w]
        rfl
       refine take_ (i := 1) (N := some 62) (v := ?_) (a' := ?_) #[true, true, false, false, false] rfl rfl (by kernel_rfl) (fun _ _ _ h => h) (Or.inl ⟨by rfl, ?_⟩) hHeld ?_ ?_
       rotate_left
       ·rintro w' ⟨s0, s1⟩
        go_simp
        with_reducible rfl
       rotate_left
       ·simp only [Act.put, List.setIfInBounds_toArray, List.set_cons_zero, List.set_cons_succ, i64_w, i32_w]
        rfl
       refine one_ (i := 2) (N := some 63) #[true, true, true, false, false] rfl rfl (by kernel_rfl) (by decide) (fun K hK => ?_)
       refine goes_ Try.func13 (by kernel_rfl) rfl #[.agg #[.slice A0_0 l0_0.length c0_0]] (by rfl) rfl rfl gmp ?_
       with_reducible refine (laws_toYard.calls kj20 _ _ l0_0 t369 _ ?side1 ?side2 A45.out).mono ?_
       (case side1 => exact cdl (Kd.C_below HR0_0.out HB.out))
       (case side2 => exact HC0_0.out)
       rintro e w66 ⟨v370, rfl, ho0, hb⟩
       refine ⟨_, rfl, ?_⟩
       have n0_ := Aside0.mk (Kd.R_below (rdl HO_12) hb)
       have n1_ := Aside0.mk (Kd.S_elder' (sdl HO_363000) (Kd.S_base ho0) hb)
       have n2_ := Aside0.mk (Kd.S_lower (Kd.S_new' ho0 (Kd.S_lt (sdl HO_363000))) (below_size (bel2 HB GE347 GE362)))
       have n3_ := Aside0.mk (blk_below (g := gb347) (o := .cells #[.slice A0_0 l0_0.length c0_0] 24 (0, 0)) (bkl BK347) hb)
       have n4_ := Aside0.mk (blk_below (g := gb362) (o := .cells #[.slice Ao35 t359.length co35] 30 (0, 0)) (bkl BK362) hb)
       have n5_ := Aside0.mk (below_step (bel2 HB GE347 GE362) hb)
       clear HO_12
       clear HO_363000
       clear BK347
       clear BK362
       clear HB
       have HO_12 := n0_
       have HO_363000 := n1_
       have HO371 := n2_
       have BK347 := n3_
       have BK362 := n4_
       have HB := n5_
       clear n0_ n1_ n2_ n3_ n4_ n5_
       (try clear hb)
       (try clear hb2)
       (try clear hk)
       (try clear hi)
       (try clear ho0)
       obtain ⟨Ao67, co67, eo67⟩ := Kd.S_slice HO371.out
       (first | subst eo67 | (injection eo67 with f1_ f2_ f3_; have f4_ := f1_.symm; have f5_ := f3_.symm; clear f1_ f2_ f3_; subst f4_; subst f5_))
       refine hK.out _ _ ⟨(blk_cell BK362.out 0).trans rfl, (blk_cell BK347.out 0).trans rfl⟩ (fun hHeld => ?_)
       clear hK K
       refine norm_ (a' := ?_) ?_ ?_
       rotate_left
       ·show Act.put _ (some 63) _ = _
        simp only [Act.put, List.setIfInBounds_toArray, List.set_cons_zero, List.set_cons_succ, i64_w, i32_w]
        rfl
       refine one_ (i := 3) (N := some 64) #[true, true, true, true, false] rfl rfl (by kernel_rfl) (by decide) (fun K hK => ?_)
       refine goes_ Try.func16 (by kernel_rfl) rfl #[.agg #[.slice Ao35 t359.length co35], .agg #[.slice Ao67 t369.length co67]] (by rfl) rfl rfl gmp ?_
       with_reducible refine (laws_eqYard.calls kj20 _ _ t359 _ _ t369 false _ ?side1 ?side2 ?side3 ?side4 A46.out).mono ?_
       (case side1 => repeat (first | exact (Kd.S_reads' HO_363000.out).2.2 | (with_reducible refine Kd.C_alloc ?_ _) | (with_reducible refine Kd.C_drewN ?_ _) | (with_reducible refine Kd.C_drew ?_)))
       (case side2 => exact (Kd.S_reads' HO_363000.out).2.1)
       (case side3 => repeat (first | exact (Kd.S_reads' HO371.out).2.2 | (with_reducible refine Kd.C_alloc ?_ _) | (with_reducible refine Kd.C_drewN ?_ _) | (with_reducible refine Kd.C_drew ?_)))
       (case side4 => exact (Kd.S_reads' HO371.out).2.1)
       rintro e w68 ⟨rfl, hb⟩
       refine ⟨_, rfl, ?_⟩
       have n0_ := Aside0.mk (Kd.R_below (rdl HO_12) hb)
       have n1_ := Aside0.mk (Kd.S_below (sdl HO_363000) hb)
       have n2_ := Aside0.mk (Kd.S_below (sdl HO371) hb)
       have n3_ := Aside0.mk (blk_below (g := gb347) (o := .cells #[.slice A0_0 l0_0.length c0_0] 24 (0, 0)) (bkl BK347) hb)
       have n4_ := Aside0.mk (blk_below (g := gb362) (o := .cells #[.slice Ao35 t359.length co35] 30 (0, 0)) (bkl BK362) hb)
       have n5_ := Aside0.mk (below_step (bel2 HB GE347 GE362) hb)
       clear HO_12
       clear HO_363000
       clear HO371
       clear BK347
       clear BK362
       clear HB
       have HO_12 := n0_
       have HO_363000 := n1_
       have HO371 := n2_
       have BK347 := n3_
       have BK362 := n4_
       have HB := n5_
       clear n0_ n1_ n2_ n3_ n4_ n5_
       (try clear hb)
       (try clear hb2)
       (try clear hk)
       (try clear hi)
       refine hK.out _ _ ⟨(blk_cell BK362.out 0).trans rfl, (blk_cell BK347.out 0).trans rfl⟩ (fun hHeld => ?_)
       clear hK K
       refine norm_ (a' := ?_) ?_ ?_
       rotate_left
       ·show Act.put _ (some 64) _ = _
        simp only [Act.put, List.setIfInBounds_toArray, List.set_cons_zero, List.set_cons_succ, i64_w, i32_w]
        rfl
       refine pure_ (i := 4) (N := some 65) (v := ?_) (a' := ?_) #[true, true, true, true, true] rfl rfl (by kernel_rfl) (fun _ _ _ h => h) (Or.inl ⟨by rfl, ?_⟩) ?_ ?_
       rotate_left
       ·intro w'
        go_simp
        with_reducible rfl
       rotate_left
       ·simp only [Act.put, List.setIfInBounds_toArray, List.set_cons_zero, List.set_cons_succ, i64_w, i32_w]
        rfl
       refine done_ (by kernel_rfl) ?_
       try go_wp2
       go_ret
       exact ⟨by first | rfl | (simp [errW_none, errW_some] <;> rfl) | (simp [*, errW_none, errW_some] <;> rfl), bel2 HB GE347 GE362⟩

/-- THE ONE PURE STATEMENT of laws_FnExactWorstStack. -/
def laws_FnExactWorstStack.Pure : Prop := ∀ (s0 : S24) (l1 : List (S65)) (a2 : Int), G24 s0 → (l1.length ≤ maxLen ∧ ∀ z377, z377 ∈ l1 → G65 z377) → (Lit.int .i64 a2).wf = true → ∃ k, laws_FnExactWorstStack.f k s0.f0 l1 a2 = some true
theorem laws_FnExactWorstStack.walk (P : laws_FnExactWorstStack.Pure) (A0_0 : Option Addr) (c0_0 : Nat) (s0 : S24) (A1 : Option Addr) (c1 : Nat) (l1 : List (S65)) (a2 : Int) (w : World) (hr0_0 : Kd.C (Kd.slice 3 (Kd.int .i64)) w A0_0 s0.f0.length s0.f0) (hc0_0 : s0.f0.length ≤ c0_0) (g0 : G24 s0) (hr1 : Kd.C k65 w A1 l1.length l1) (hc1 : l1.length ≤ c1) (g1 : (l1.length ≤ maxLen ∧ ∀ z378, z378 ∈ l1 → G65 z378)) (g2 : (Lit.int .i64 a2).wf = true) :
  Calls Try.prog 4 #[.agg #[.slice A0_0 s0.f0.length c0_0], .slice A1 l1.length c1, .int .i64 a2] w fun e w' => e = .returned (.bool true) ∧ Below w.heap.size w w' := by
 obtain ⟨k, h⟩ := P s0 l1 a2 g0 g1 g2
 refine (laws_FnExactWorstStack.calls k _ _ s0.f0 _ _ l1 a2 true w hr0_0 hc0_0 hr1 hc1 h).mono ?_
 rintro e w' ⟨rfl, hd⟩
 exact ⟨rfl, hd⟩

end Go.Proofs.Ytmpmcckjpkijnaa.P
