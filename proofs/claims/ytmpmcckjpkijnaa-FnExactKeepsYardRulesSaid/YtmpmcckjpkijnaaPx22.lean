-- Written by a program of this session over the translation (a variant of the printer, see wip/gen); Lean checks it.
import Derived.Test.YtmpmcckjpkijnaaPx0
import Derived.Test.YtmpmcckjpkijnaaPx1
import Derived.Test.YtmpmcckjpkijnaaPx9
import Derived.Test.YtmpmcckjpkijnaaPx10
import Derived.Test.YtmpmcckjpkijnaaPx18
import Derived.Test.YtmpmcckjpkijnaaPx19
import Derived.Test.YtmpmcckjpkijnaaPx21
namespace Go.Proofs.Ytmpmcckjpkijnaa.P
open Go.RowKit Go.Proofs.YtmpmcckjpkijnaaW.PrintWords Go.Proofs.YtmpmcckjpkijnaaW.PrintLast Go.Proofs.YtmpmcckjpkijnaaW.PrintMore
attribute [local go_sem] Go.Proofs.Ytmpmcckjpkijnaa.V.isSome_setCell max2_int min2_int max_two min_two max_three min_three max_four min_four   -- for this text's walks alone
set_option linter.unusedVariables false
set_option linter.unusedSimpArgs false

/-! ### laws_FnExactKeepsYardRules: function 3 -/
def laws_FnExactKeepsYardRules.j0 : Nat → List (S65) → List (S69) → Bool → List (List Int) → List (List Int) → Option (Bool)
 | 0, _, _, _, _, _ => none
 | k + 1, x1, x11, x51, x297000, x311000 => if x51 = true then (some false) else ((laws_toYard.f k x297000).bind fun t316 => ((laws_eqYard.f k x311000 t316).bind fun t319 => (if t319 = true then ((laws_toContainerS.f k x1).bind fun t320 => ((laws_eqContainerS.f k x11 t320).bind fun t323 => (if t323 = true then (some true) else (some false)))) else (some false))))
def laws_FnExactKeepsYardRules.f (k : Nat) (l0_0 : List (List Int)) (l1 : List (S65)) (a2 : Int) : Option (Bool) := (laws_szYard.f k l0_0 1048576).bind fun t297 => (if t297 < 0 then (some true) else ((laws_szContainerS.f k l1 t297).bind fun t298 => (if t298 < 0 then (some true) else ((laws_toYard.f k l0_0).bind fun t299 => ((laws_toContainerS.f k l1).bind fun t302 => ((spec_KeepsYardRules.f k t299 t302 a2).bind fun bt305 => ((laws_toYard.f k l0_0).bind fun t307 => ((laws_toContainerS.f k l1).bind fun t311 => ((impl_KeepsYardRules.f k t307 t311 a2).bind fun bt314 => (if (bt314.1 != bt305.1) = true then (laws_FnExactKeepsYardRules.j0 k l1 t311 true l0_0 t307) else (laws_FnExactKeepsYardRules.j0 k l1 t311 (bt314.2 != bt305.2) l0_0 t307)))))))))))
theorem laws_FnExactKeepsYardRules.mono_l : ∀ k, (∀ y0 y1 y2 y3 y4, LeO (laws_FnExactKeepsYardRules.j0 k y0 y1 y2 y3 y4) (laws_FnExactKeepsYardRules.j0 (k + 1) y0 y1 y2 y3 y4))
 | 0 => fun _ _ _ _ _ r h => by simp [laws_FnExactKeepsYardRules.j0] at h
 | k + 1 => by
  have ih0 := laws_FnExactKeepsYardRules.mono_l k
  ·intro y0 y1 y2 y3 y4
   unfold laws_FnExactKeepsYardRules.j0
   repeat' first
   | (with_reducible exact ih0 _ _ _ _ _)
   | (with_reducible exact impl_KeepsYardRules.mono _ _ _ _)
   | (with_reducible exact laws_eqContainerS.mono _ _ _)
   | (with_reducible exact laws_eqYard.mono _ _ _)
   | (with_reducible exact laws_szContainerS.mono _ _ _)
   | (with_reducible exact laws_szYard.mono _ _ _)
   | (with_reducible exact laws_toContainerS.mono _ _)
   | (with_reducible exact laws_toYard.mono _ _)
   | (with_reducible exact spec_KeepsYardRules.mono _ _ _ _)
   | (with_reducible exact LeO.refl _)
   | (with_reducible exact LeO.none _)
   | (with_reducible refine LeO.ite ?_ ?_)
   | (with_reducible refine LeO.bind ?_ (fun _ => ?_))
   | exact ih0 _ _ _ _ _
   | exact impl_KeepsYardRules.mono _ _ _ _
   | exact laws_eqContainerS.mono _ _ _
   | exact laws_eqYard.mono _ _ _
   | exact laws_szContainerS.mono _ _ _
   | exact laws_szYard.mono _ _ _
   | exact laws_toContainerS.mono _ _
   | exact laws_toYard.mono _ _
   | exact spec_KeepsYardRules.mono _ _ _ _
   | exact LeO.none _
   | refine LeO.ite ?_ ?_
   | refine LeO.bind ?_ (fun _ => ?_)
theorem laws_FnExactKeepsYardRules.mono : ∀ a0 a1 a2 k, LeO (laws_FnExactKeepsYardRules.f k a0 a1 a2) (laws_FnExactKeepsYardRules.f (k + 1) a0 a1 a2) := by
 intro a0 a1 a2 k
 have ih0 := laws_FnExactKeepsYardRules.mono_l k
 unfold laws_FnExactKeepsYardRules.f
 repeat' first
   | (with_reducible exact ih0 _ _ _ _ _)
   | (with_reducible exact impl_KeepsYardRules.mono _ _ _ _)
   | (with_reducible exact laws_eqContainerS.mono _ _ _)
   | (with_reducible exact laws_eqYard.mono _ _ _)
   | (with_reducible exact laws_szContainerS.mono _ _ _)
   | (with_reducible exact laws_szYard.mono _ _ _)
   | (with_reducible exact laws_toContainerS.mono _ _)
   | (with_reducible exact laws_toYard.mono _ _)
   | (with_reducible exact spec_KeepsYardRules.mono _ _ _ _)
   | (with_reducible exact LeO.refl _)
   | (with_reducible exact LeO.none _)
   | (with_reducible refine LeO.ite ?_ ?_)
   | (with_reducible refine LeO.bind ?_ (fun _ => ?_))
   | exact ih0 _ _ _ _ _
   | exact impl_KeepsYardRules.mono _ _ _ _
   | exact laws_eqContainerS.mono _ _ _
   | exact laws_eqYard.mono _ _ _
   | exact laws_szContainerS.mono _ _ _
   | exact laws_szYard.mono _ _ _
   | exact laws_toContainerS.mono _ _
   | exact laws_toYard.mono _ _
   | exact spec_KeepsYardRules.mono _ _ _ _
   | exact LeO.none _
   | refine LeO.ite ?_ ?_
   | refine LeO.bind ?_ (fun _ => ?_)
set_option maxHeartbeats 8000000 in
set_option maxRecDepth 100000 in
theorem laws_FnExactKeepsYardRules.calls (k : Nat) (A0_0 : Option Addr) (c0_0 : Nat) (l0_0 : List (List Int)) (A1 : Option Addr) (c1 : Nat) (l1 : List (S65)) (a2 : Int) (r : Bool) (w : World) (hr0_0 : Kd.C (Kd.slice 3 (Kd.int .i64)) w A0_0 l0_0.length l0_0) (hc0_0 : l0_0.length ≤ c0_0) (hr1 : Kd.C k65 w A1 l1.length l1) (hc1 : l1.length ≤ c1) (h : laws_FnExactKeepsYardRules.f k l0_0 l1 a2 = some r) :
  Calls Try.prog 3 #[.agg #[.slice A0_0 l0_0.length c0_0], .slice A1 l1.length c1, .int .i64 a2] w fun e w' => e = .returned (.bool r) ∧ Below w.heap.size w w' := by
 have hu24 := Try.underlying24
 have hu30 := Try.underlying30
 have HR0_0 := Aside0.mk hr0_0
 have HC0_0 := Aside0.mk hc0_0
 clear hr0_0 hc0_0
 have HR1 := Aside0.mk hr1
 have HC1 := Aside0.mk hc1
 clear hr1 hc1
 have HB := Aside0.mk (Below.refl w.heap.size w)
 have H : ((laws_szYard.f k l0_0 1048576).bind fun t297 => (if t297 < 0 then (some true) else ((laws_szContainerS.f k l1 t297).bind fun t298 => (if t298 < 0 then (some true) else ((laws_toYard.f k l0_0).bind fun t299 => ((laws_toContainerS.f k l1).bind fun t302 => ((spec_KeepsYardRules.f k t299 t302 a2).bind fun bt305 => ((laws_toYard.f k l0_0).bind fun t307 => ((laws_toContainerS.f k l1).bind fun t311 => ((impl_KeepsYardRules.f k t307 t311 a2).bind fun bt314 => (if (bt314.1 != bt305.1) = true then (laws_FnExactKeepsYardRules.j0 k l1 t311 true l0_0 t307) else (laws_FnExactKeepsYardRules.j0 k l1 t311 (bt314.2 != bt305.2) l0_0 t307)))))))))))) = some r := h
 clear h
 replace H := Option.bind_eq_some_iff.mp H
 obtain ⟨t297, A40, H⟩ := H
 replace H : (if t297 < 0 then (some true) else ((laws_szContainerS.f k l1 t297).bind fun t298 => (if t298 < 0 then (some true) else ((laws_toYard.f k l0_0).bind fun t299 => ((laws_toContainerS.f k l1).bind fun t302 => ((spec_KeepsYardRules.f k t299 t302 a2).bind fun bt305 => ((laws_toYard.f k l0_0).bind fun t307 => ((laws_toContainerS.f k l1).bind fun t311 => ((impl_KeepsYardRules.f k t307 t311 a2).bind fun bt314 => (if (bt314.1 != bt305.1) = true then (laws_FnExactKeepsYardRules.j0 k l1 t311 true l0_0 t307) else (laws_FnExactKeepsYardRules.j0 k l1 t311 (bt314.2 != bt305.2) l0_0 t307))))))))))) = some r := H
 have A4 := Aside0.mk A40
 clear A40
 by_cases c5 : t297 < 0
 ·rw [if_pos c5] at H
  have c5b0 : decide (t297 < 0) = true := decide_eq_true c5
  clear c5
  obtain rfl := Option.some.inj H
  go_enter Try.func3, Try.ntmps3
  go_wp2_with (first | ((with_reducible refine gate_dst (N := 3) rfl ?_); refine box_event ?hg (N := 3) ?hd (cs := #[.slice A0_0 l0_0.length c0_0]) (t := 24) ?hr ?_; (case hd => rfl); (case hg => rfl); (case hr => first | (go_simp; done) | (go_simp; rfl)); intro gb296 hg w6 hbox hb; have n0_ := Aside0.mk (below_step (bel HB) hb); have n1_ := Aside0.mk (hbox); have n2_ := Aside0.mk ((by rw [hg]; exact (below_size (bel HB)) : w.heap.size ≤ gb296)); have n3_ := Aside0.mk ((by rw [hg]; exact (below_size (bel HB)) : w.heap.size ≤ gb296)); clear HB; have HB := n0_; have BK296 := n1_; have GW296 := n2_; have GE296 := n3_; clear n0_ n1_ n2_ n3_; clear hb hbox hg; have hcz7_0 : w6.cell? ⟨gb296, 0, none⟩ = some (.slice A0_0 l0_0.length c0_0) := (blk_cell BK296.out 0).trans rfl; have hfz7_0 := blk_frozen BK296.out 0) | ((with_reducible refine gate_callee (f := 10) rfl ?_); refine goesL_ (some 16) rfl rfl Try.func10 (by kernel_rfl) rfl #[.agg #[.slice A0_0 l0_0.length c0_0], .int .i64 1048576] rfl (by (try simp only [List.map_toArray, List.map_cons, List.map_nil]); first | done | rfl | (simp only [List.length_drop, List.length_take]; rfl)) ?_; (with_reducible refine (laws_szYard.calls k _ _ l0_0 1048576 t297 _ ?side1 ?side2 A4.out).mono ?_); (case side1 => repeat (first | exact (Kd.C_below HR0_0.out HB.out) | (with_reducible refine Kd.C_alloc ?_ _) | (with_reducible refine Kd.C_drewN ?_ _) | (with_reducible refine Kd.C_drew ?_))); (case side2 => exact HC0_0.out); rintro e w8 ⟨rfl, hb⟩; refine ⟨_, rfl, ?_⟩; have n0_ := Aside0.mk (blk_below (g := gb296) (o := .cells #[.slice A0_0 l0_0.length c0_0] 24 (0, 0)) (bkl BK296) hb); have n1_ := Aside0.mk (below_step (by repeat (first | (with_reducible first | exact HB.out | apply below_alloc | apply pw_below_drewN | apply below_drew1 | refine below_set ?_ GE296.out) | exact HB.out)) hb); clear BK296; clear HB; have BK296 := n0_; have HB := n1_; clear n0_ n1_; (try clear hb); (try clear hb2); (try clear hk); (try clear hi)))
  go_ret
  exact ⟨by first | rfl | (simp [errW_none, errW_some] <;> rfl) | (simp [*, errW_none, errW_some] <;> rfl), by repeat (first | (with_reducible first | exact HB.out | apply below_alloc | apply pw_below_drewN | apply below_drew1 | refine below_set ?_ GE296.out) | exact HB.out)⟩
 ·rw [if_neg c5] at H
  have c5b0 : decide (t297 < 0) = false := decide_eq_false c5
  clear c5
  replace H := Option.bind_eq_some_iff.mp H
  obtain ⟨t298, A90, H⟩ := H
  replace H : (if t298 < 0 then (some true) else ((laws_toYard.f k l0_0).bind fun t299 => ((laws_toContainerS.f k l1).bind fun t302 => ((spec_KeepsYardRules.f k t299 t302 a2).bind fun bt305 => ((laws_toYard.f k l0_0).bind fun t307 => ((laws_toContainerS.f k l1).bind fun t311 => ((impl_KeepsYardRules.f k t307 t311 a2).bind fun bt314 => (if (bt314.1 != bt305.1) = true then (laws_FnExactKeepsYardRules.j0 k l1 t311 true l0_0 t307) else (laws_FnExactKeepsYardRules.j0 k l1 t311 (bt314.2 != bt305.2) l0_0 t307))))))))) = some r := H
  have A9 := Aside0.mk A90
  clear A90
  by_cases c10 : t298 < 0
  ·rw [if_pos c10] at H
   have c10b0 : decide (t298 < 0) = true := decide_eq_true c10
   clear c10
   obtain rfl := Option.some.inj H
   go_enter Try.func3, Try.ntmps3
   go_wp2_with (first | ((with_reducible refine gate_dst (N := 3) rfl ?_); refine box_event ?hg (N := 3) ?hd (cs := #[.slice A0_0 l0_0.length c0_0]) (t := 24) ?hr ?_; (case hd => rfl); (case hg => rfl); (case hr => first | (go_simp; done) | (go_simp; rfl)); intro gb296 hg w11 hbox hb; have n0_ := Aside0.mk (below_step (bel HB) hb); have n1_ := Aside0.mk (hbox); have n2_ := Aside0.mk ((by rw [hg]; exact (below_size (bel HB)) : w.heap.size ≤ gb296)); have n3_ := Aside0.mk ((by rw [hg]; exact (below_size (bel HB)) : w.heap.size ≤ gb296)); clear HB; have HB := n0_; have BK296 := n1_; have GW296 := n2_; have GE296 := n3_; clear n0_ n1_ n2_ n3_; clear hb hbox hg; have hcz12_0 : w11.cell? ⟨gb296, 0, none⟩ = some (.slice A0_0 l0_0.length c0_0) := (blk_cell BK296.out 0).trans rfl; have hfz12_0 := blk_frozen BK296.out 0) | ((with_reducible refine gate_callee (f := 10) rfl ?_); refine goesL_ (some 16) rfl rfl Try.func10 (by kernel_rfl) rfl #[.agg #[.slice A0_0 l0_0.length c0_0], .int .i64 1048576] rfl (by (try simp only [List.map_toArray, List.map_cons, List.map_nil]); first | done | rfl | (simp only [List.length_drop, List.length_take]; rfl)) ?_; (with_reducible refine (laws_szYard.calls k _ _ l0_0 1048576 t297 _ ?side1 ?side2 A4.out).mono ?_); (case side1 => repeat (first | exact (Kd.C_below HR0_0.out HB.out) | (with_reducible refine Kd.C_alloc ?_ _) | (with_reducible refine Kd.C_drewN ?_ _) | (with_reducible refine Kd.C_drew ?_))); (case side2 => exact HC0_0.out); rintro e w13 ⟨rfl, hb⟩; refine ⟨_, rfl, ?_⟩; have n0_ := Aside0.mk (blk_below (g := gb296) (o := .cells #[.slice A0_0 l0_0.length c0_0] 24 (0, 0)) (bkl BK296) hb); have n1_ := Aside0.mk (below_step (by repeat (first | (with_reducible first | exact HB.out | apply below_alloc | apply pw_below_drewN | apply below_drew1 | refine below_set ?_ GE296.out) | exact HB.out)) hb); clear BK296; clear HB; have BK296 := n0_; have HB := n1_; clear n0_ n1_; (try clear hb); (try clear hb2); (try clear hk); (try clear hi)) | ((with_reducible refine gate_callee (f := 11) rfl ?_); refine goesL_ (some 21) rfl rfl Try.func11 (by kernel_rfl) rfl #[.slice A1 l1.length c1, .int .i64 t297] rfl (by (try simp only [List.map_toArray, List.map_cons, List.map_nil]); first | done | rfl | (simp only [List.length_drop, List.length_take]; rfl)) ?_; (with_reducible refine (laws_szContainerS.calls k _ _ l1 t297 t298 _ ?side1 ?side2 A9.out).mono ?_); (case side1 => repeat (first | exact (Kd.C_below HR1.out HB.out) | (with_reducible refine Kd.C_alloc ?_ _) | (with_reducible refine Kd.C_drewN ?_ _) | (with_reducible refine Kd.C_drew ?_))); (case side2 => exact HC1.out); rintro e w14 ⟨rfl, hb⟩; refine ⟨_, rfl, ?_⟩; have n0_ := Aside0.mk (blk_below (g := gb296) (o := .cells #[.slice A0_0 l0_0.length c0_0] 24 (0, 0)) (bkl BK296) hb); have n1_ := Aside0.mk (below_step (by repeat (first | (with_reducible first | exact HB.out | apply below_alloc | apply pw_below_drewN | apply below_drew1 | refine below_set ?_ GE296.out) | exact HB.out)) hb); clear BK296; clear HB; have BK296 := n0_; have HB := n1_; clear n0_ n1_; (try clear hb); (try clear hb2); (try clear hk); (try clear hi)))
   go_ret
   exact ⟨by first | rfl | (simp [errW_none, errW_some] <;> rfl) | (simp [*, errW_none, errW_some] <;> rfl), by repeat (first | (with_reducible first | exact HB.out | apply below_alloc | apply pw_below_drewN | apply below_drew1 | refine below_set ?_ GE296.out) | exact HB.out)⟩
  ·rw [if_neg c10] at H
   have c10b0 : decide (t298 < 0) = false := decide_eq_false c10
   clear c10
   replace H := Option.bind_eq_some_iff.mp H
   obtain ⟨t299, A150, H⟩ := H
   replace H : ((laws_toContainerS.f k l1).bind fun t302 => ((spec_KeepsYardRules.f k t299 t302 a2).bind fun bt305 => ((laws_toYard.f k l0_0).bind fun t307 => ((laws_toContainerS.f k l1).bind fun t311 => ((impl_KeepsYardRules.f k t307 t311 a2).bind fun bt314 => (if (bt314.1 != bt305.1) = true then (laws_FnExactKeepsYardRules.j0 k l1 t311 true l0_0 t307) else (laws_FnExactKeepsYardRules.j0 k l1 t311 (bt314.2 != bt305.2) l0_0 t307))))))) = some r := H
   have A15 := Aside0.mk A150
   clear A150
   replace H := Option.bind_eq_some_iff.mp H
   obtain ⟨t302, A160, H⟩ := H
   replace H : ((spec_KeepsYardRules.f k t299 t302 a2).bind fun bt305 => ((laws_toYard.f k l0_0).bind fun t307 => ((laws_toContainerS.f k l1).bind fun t311 => ((impl_KeepsYardRules.f k t307 t311 a2).bind fun bt314 => (if (bt314.1 != bt305.1) = true then (laws_FnExactKeepsYardRules.j0 k l1 t311 true l0_0 t307) else (laws_FnExactKeepsYardRules.j0 k l1 t311 (bt314.2 != bt305.2) l0_0 t307)))))) = some r := H
   have A16 := Aside0.mk A160
   clear A160
   replace H := Option.bind_eq_some_iff.mp H
   obtain ⟨⟨t305, t306⟩, A170, H⟩ := H
   replace H : ((laws_toYard.f k l0_0).bind fun t307 => ((laws_toContainerS.f k l1).bind fun t311 => ((impl_KeepsYardRules.f k t307 t311 a2).bind fun bt314 => (if (bt314.1 != t305) = true then (laws_FnExactKeepsYardRules.j0 k l1 t311 true l0_0 t307) else (laws_FnExactKeepsYardRules.j0 k l1 t311 (bt314.2 != t306) l0_0 t307))))) = some r := H
   have A17 := Aside0.mk A170
   clear A170
   replace H := Option.bind_eq_some_iff.mp H
   obtain ⟨t307, A180, H⟩ := H
   replace H : ((laws_toContainerS.f k l1).bind fun t311 => ((impl_KeepsYardRules.f k t307 t311 a2).bind fun bt314 => (if (bt314.1 != t305) = true then (laws_FnExactKeepsYardRules.j0 k l1 t311 true l0_0 t307) else (laws_FnExactKeepsYardRules.j0 k l1 t311 (bt314.2 != t306) l0_0 t307)))) = some r := H
   have A18 := Aside0.mk A180
   clear A180
   replace H := Option.bind_eq_some_iff.mp H
   obtain ⟨t311, A190, H⟩ := H
   replace H : ((impl_KeepsYardRules.f k t307 t311 a2).bind fun bt314 => (if (bt314.1 != t305) = true then (laws_FnExactKeepsYardRules.j0 k l1 t311 true l0_0 t307) else (laws_FnExactKeepsYardRules.j0 k l1 t311 (bt314.2 != t306) l0_0 t307))) = some r := H
   have A19 := Aside0.mk A190
   clear A190
   replace H := Option.bind_eq_some_iff.mp H
   obtain ⟨⟨t314, t315⟩, A200, H⟩ := H
   replace H : (if (t314 != t305) = true then (laws_FnExactKeepsYardRules.j0 k l1 t311 true l0_0 t307) else (laws_FnExactKeepsYardRules.j0 k l1 t311 (t315 != t306) l0_0 t307)) = some r := H
   have A20 := Aside0.mk A200
   clear A200
   have HC21 := Aside0.mk H
   clear H
   go_enter Try.func3, Try.ntmps3
   go_upto_region 12 with (first | ((with_reducible refine gate_dst (N := 3) rfl ?_); refine box_event ?hg (N := 3) ?hd (cs := #[.slice A0_0 l0_0.length c0_0]) (t := 24) ?hr ?_; (case hd => rfl); (case hg => rfl); (case hr => first | (go_simp; done) | (go_simp; rfl)); intro gb296 hg w22 hbox hb; have n0_ := Aside0.mk (below_step (bel HB) hb); have n1_ := Aside0.mk (hbox); have n2_ := Aside0.mk ((by rw [hg]; exact (below_size (bel HB)) : w.heap.size ≤ gb296)); have n3_ := Aside0.mk ((by rw [hg]; exact (below_size (bel HB)) : w.heap.size ≤ gb296)); clear HB; have HB := n0_; have BK296 := n1_; have GW296 := n2_; have GE296 := n3_; clear n0_ n1_ n2_ n3_; clear hb hbox hg; have hcz23_0 : w22.cell? ⟨gb296, 0, none⟩ = some (.slice A0_0 l0_0.length c0_0) := (blk_cell BK296.out 0).trans rfl; have hfz23_0 := blk_frozen BK296.out 0) | ((with_reducible refine gate_callee (f := 10) rfl ?_); refine goesL_ (some 16) rfl rfl Try.func10 (by kernel_rfl) rfl #[.agg #[.slice A0_0 l0_0.length c0_0], .int .i64 1048576] rfl (by (try simp only [List.map_toArray, List.map_cons, List.map_nil]); first | done | rfl | (simp only [List.length_drop, List.length_take]; rfl)) ?_; (with_reducible refine (laws_szYard.calls k _ _ l0_0 1048576 t297 _ ?side1 ?side2 A4.out).mono ?_); (case side1 => repeat (first | exact (Kd.C_below HR0_0.out HB.out) | (with_reducible refine Kd.C_alloc ?_ _) | (with_reducible refine Kd.C_drewN ?_ _) | (with_reducible refine Kd.C_drew ?_))); (case side2 => exact HC0_0.out); rintro e w24 ⟨rfl, hb⟩; refine ⟨_, rfl, ?_⟩; have n0_ := Aside0.mk (blk_below (g := gb296) (o := .cells #[.slice A0_0 l0_0.length c0_0] 24 (0, 0)) (bkl BK296) hb); have n1_ := Aside0.mk (below_step (by repeat (first | (with_reducible first | exact HB.out | apply below_alloc | apply pw_below_drewN | apply below_drew1 | refine below_set ?_ GE296.out) | exact HB.out)) hb); clear BK296; clear HB; have BK296 := n0_; have HB := n1_; clear n0_ n1_; (try clear hb); (try clear hb2); (try clear hk); (try clear hi)) | ((with_reducible refine gate_callee (f := 11) rfl ?_); refine goesL_ (some 21) rfl rfl Try.func11 (by kernel_rfl) rfl #[.slice A1 l1.length c1, .int .i64 t297] rfl (by (try simp only [List.map_toArray, List.map_cons, List.map_nil]); first | done | rfl | (simp only [List.length_drop, List.length_take]; rfl)) ?_; (with_reducible refine (laws_szContainerS.calls k _ _ l1 t297 t298 _ ?side1 ?side2 A9.out).mono ?_); (case side1 => repeat (first | exact (Kd.C_below HR1.out HB.out) | (with_reducible refine Kd.C_alloc ?_ _) | (with_reducible refine Kd.C_drewN ?_ _) | (with_reducible refine Kd.C_drew ?_))); (case side2 => exact HC1.out); rintro e w25 ⟨rfl, hb⟩; refine ⟨_, rfl, ?_⟩; have n0_ := Aside0.mk (blk_below (g := gb296) (o := .cells #[.slice A0_0 l0_0.length c0_0] 24 (0, 0)) (bkl BK296) hb); have n1_ := Aside0.mk (below_step (by repeat (first | (with_reducible first | exact HB.out | apply below_alloc | apply pw_below_drewN | apply below_drew1 | refine below_set ?_ GE296.out) | exact HB.out)) hb); clear BK296; clear HB; have BK296 := n0_; have HB := n1_; clear n0_ n1_; (try clear hb); (try clear hb2); (try clear hk); (try clear hi); have hcz26_0 : w25.cell? ⟨gb296, 0, none⟩ = some (.slice A0_0 l0_0.length c0_0) := (blk_cell BK296.out 0).trans rfl; have hfz26_0 := blk_frozen BK296.out 0) | ((with_reducible refine gate_callee (f := 13) rfl ?_); refine goesL_ (some 26) rfl rfl Try.func13 (by kernel_rfl) rfl #[.agg #[.slice A0_0 l0_0.length c0_0]] rfl (by (try simp only [List.map_toArray, List.map_cons, List.map_nil]); first | done | rfl | (simp only [List.length_drop, List.length_take]; rfl)) ?_; (with_reducible refine (laws_toYard.calls k _ _ l0_0 t299 _ ?side1 ?side2 A15.out).mono ?_); (case side1 => repeat (first | exact (Kd.C_below HR0_0.out HB.out) | (with_reducible refine Kd.C_alloc ?_ _) | (with_reducible refine Kd.C_drewN ?_ _) | (with_reducible refine Kd.C_drew ?_))); (case side2 => exact HC0_0.out); rintro e w27 ⟨v300, rfl, ho0, hb⟩; refine ⟨_, rfl, ?_⟩; have n0_ := Aside0.mk (Kd.S_lower ho0 (below_size (by repeat (first | (with_reducible first | exact HB.out | apply below_alloc | apply pw_below_drewN | apply below_drew1 | refine below_set ?_ GE296.out) | exact HB.out)))); have n1_ := Aside0.mk (blk_below (g := gb296) (o := .cells #[.slice A0_0 l0_0.length c0_0] 24 (0, 0)) (bkl BK296) hb); have n2_ := Aside0.mk (below_step (by repeat (first | (with_reducible first | exact HB.out | apply below_alloc | apply pw_below_drewN | apply below_drew1 | refine below_set ?_ GE296.out) | exact HB.out)) hb); clear BK296; clear HB; have HO301 := n0_; have BK296 := n1_; have HB := n2_; clear n0_ n1_ n2_; (try clear hb); (try clear hb2); (try clear hk); (try clear hi); (try clear ho0)) | ((with_reducible refine gate_callee (f := 14) rfl ?_); refine goesL_ (some 28) rfl rfl Try.func14 (by kernel_rfl) rfl #[.slice A1 l1.length c1] rfl (by (try simp only [List.map_toArray, List.map_cons, List.map_nil]); first | done | rfl | (simp only [List.length_drop, List.length_take]; rfl)) ?_; (with_reducible refine (laws_toContainerS.calls k _ _ l1 t302 _ ?side1 ?side2 A16.out).mono ?_); (case side1 => repeat (first | exact (Kd.C_below HR1.out HB.out) | (with_reducible refine Kd.C_alloc ?_ _) | (with_reducible refine Kd.C_drewN ?_ _) | (with_reducible refine Kd.C_drew ?_))); (case side2 => exact HC1.out); rintro e w28 ⟨v303, rfl, ho0, hb⟩; refine ⟨_, rfl, ?_⟩; have n0_ := Aside0.mk (Kd.S_below (sdl HO301) hb); have n1_ := Aside0.mk (Kd.R_lower ho0 (below_size (by repeat (first | (with_reducible first | exact HB.out | apply below_alloc | apply pw_below_drewN | apply below_drew1 | refine below_set ?_ GE296.out) | exact HB.out)))); have n2_ := Aside0.mk (blk_below (g := gb296) (o := .cells #[.slice A0_0 l0_0.length c0_0] 24 (0, 0)) (bkl BK296) hb); have n3_ := Aside0.mk (below_step (by repeat (first | (with_reducible first | exact HB.out | apply below_alloc | apply pw_below_drewN | apply below_drew1 | refine below_set ?_ GE296.out) | exact HB.out)) hb); clear HO301; clear BK296; clear HB; have HO301 := n0_; have HO304 := n1_; have BK296 := n2_; have HB := n3_; clear n0_ n1_ n2_ n3_; (try clear hb); (try clear hb2); (try clear hk); (try clear hi); (try clear ho0); obtain ⟨Ao29, co29, eo29⟩ := Kd.S_slice HO301.out; subst eo29; obtain ⟨Ao30, co30, eo30⟩ := Kd.R_slice HO304.out; subst eo30) | ((with_reducible refine gate_callee (f := 12) rfl ?_); refine goesL_ (some 30) rfl rfl Try.func12 (by kernel_rfl) rfl #[.agg #[.slice Ao29 t299.length co29], .slice Ao30 t302.length co30, .int .i64 a2] rfl (by (try simp only [List.map_toArray, List.map_cons, List.map_nil]); first | done | rfl | (simp only [List.length_drop, List.length_take]; rfl)) ?_; (with_reducible refine (spec_KeepsYardRules.calls k _ _ t299 _ _ t302 a2 t305 t306 _ ?side1 ?side2 ?side3 ?side4 A17.out).mono ?_); (case side1 => repeat (first | exact (Kd.S_reads' HO301.out).2.2 | (with_reducible refine Kd.C_alloc ?_ _) | (with_reducible refine Kd.C_drewN ?_ _) | (with_reducible refine Kd.C_drew ?_))); (case side2 => exact (Kd.S_reads' HO301.out).2.1); (case side3 => repeat (first | exact (Kd.R_reads' HO304.out).2.2 | (with_reducible refine Kd.C_alloc ?_ _) | (with_reducible refine Kd.C_drewN ?_ _) | (with_reducible refine Kd.C_drew ?_))); (case side4 => exact (Kd.R_reads' HO304.out).2.1); rintro e w31 ⟨rfl, hb⟩; refine ⟨_, rfl, ?_⟩; have n0_ := Aside0.mk (Kd.S_below (sdl HO301) hb); have n1_ := Aside0.mk (Kd.R_below (rdl HO304) hb); have n2_ := Aside0.mk (blk_below (g := gb296) (o := .cells #[.slice A0_0 l0_0.length c0_0] 24 (0, 0)) (bkl BK296) hb); have n3_ := Aside0.mk (below_step (by repeat (first | (with_reducible first | exact HB.out | apply below_alloc | apply pw_below_drewN | apply below_drew1 | refine below_set ?_ GE296.out) | exact HB.out)) hb); clear HO301; clear HO304; clear BK296; clear HB; have HO301 := n0_; have HO304 := n1_; have BK296 := n2_; have HB := n3_; clear n0_ n1_ n2_ n3_; (try clear hb); (try clear hb2); (try clear hk); (try clear hi); have hcz32_0 : w31.cell? ⟨gb296, 0, none⟩ = some (.slice A0_0 l0_0.length c0_0) := (blk_cell BK296.out 0).trans rfl; have hfz32_0 := blk_frozen BK296.out 0) | ((with_reducible refine gate_callee (f := 13) rfl ?_); refine goesL_ (some 34) rfl rfl Try.func13 (by kernel_rfl) rfl #[.agg #[.slice A0_0 l0_0.length c0_0]] rfl (by (try simp only [List.map_toArray, List.map_cons, List.map_nil]); first | done | rfl | (simp only [List.length_drop, List.length_take]; rfl)) ?_; (with_reducible refine (laws_toYard.calls k _ _ l0_0 t307 _ ?side1 ?side2 A18.out).mono ?_); (case side1 => repeat (first | exact (Kd.C_below HR0_0.out HB.out) | (with_reducible refine Kd.C_alloc ?_ _) | (with_reducible refine Kd.C_drewN ?_ _) | (with_reducible refine Kd.C_drew ?_))); (case side2 => exact HC0_0.out); rintro e w33 ⟨v308, rfl, ho0, hb⟩; refine ⟨_, rfl, ?_⟩; have n0_ := Aside0.mk (Kd.S_elder' (sdl HO301) (Kd.S_base ho0) hb); have n1_ := Aside0.mk (Kd.R_below (rdl HO304) hb); have n2_ := Aside0.mk (Kd.S_lower (Kd.S_new' ho0 (Kd.S_lt (sdl HO301))) (below_size (by repeat (first | (with_reducible first | exact HB.out | apply below_alloc | apply pw_below_drewN | apply below_drew1 | refine below_set ?_ GE296.out) | exact HB.out)))); have n3_ := Aside0.mk (blk_below (g := gb296) (o := .cells #[.slice A0_0 l0_0.length c0_0] 24 (0, 0)) (bkl BK296) hb); have n4_ := Aside0.mk (below_step (by repeat (first | (with_reducible first | exact HB.out | apply below_alloc | apply pw_below_drewN | apply below_drew1 | refine below_set ?_ GE296.out) | exact HB.out)) hb); clear HO301; clear HO304; clear BK296; clear HB; have HO301 := n0_; have HO304 := n1_; have HO309 := n2_; have BK296 := n3_; have HB := n4_; clear n0_ n1_ n2_ n3_ n4_; (try clear hb); (try clear hb2); (try clear hk); (try clear hi); (try clear ho0)) | ((with_reducible refine gate_dst (N := 10) rfl ?_); refine box_event ?hg (N := 10) ?hd (cs := #[.slice none 0 0]) (t := 30) ?hr ?_; (case hd => rfl); (case hg => rfl); (case hr => first | (go_simp; done) | (go_simp; rfl)); intro gb310 hg w34 hbox hb; have n0_ := Aside0.mk (Kd.S_below (sdl HO301) hb); have n1_ := Aside0.mk (Kd.R_below (rdl HO304) hb); have n2_ := Aside0.mk (Kd.S_below (sdl HO309) hb); have n3_ := Aside0.mk (blk_below (g := gb296) (o := .cells #[.slice A0_0 l0_0.length c0_0] 24 (0, 0)) (bkl BK296) hb); have n4_ := Aside0.mk (below_step (by repeat (first | (with_reducible first | exact HB.out | apply below_alloc | apply pw_below_drewN | apply below_drew1 | refine below_set ?_ GE296.out) | exact HB.out)) hb); have n5_ := Aside0.mk (hbox); have n6_ := Aside0.mk ((by rw [hg]; exact (below_size (by repeat (first | (with_reducible first | exact HB.out | apply below_alloc | apply pw_below_drewN | apply below_drew1 | refine below_set ?_ GE296.out) | exact HB.out))) : w.heap.size ≤ gb310)); have n7_ := Aside0.mk ((by rw [hg]; exact (below_size (by repeat (first | (with_reducible first | exact HB.out | apply below_alloc | apply pw_below_drewN | apply below_drew1 | refine below_set ?_ GE296.out) | exact HB.out))) : w.heap.size ≤ gb310)); have n8_ := Aside0.mk ((by rw [hg]; exact Nat.ne_of_lt (blk_lt (g := gb296) (o := .cells #[.slice A0_0 l0_0.length c0_0] 24 (0, 0)) (bkl BK296)) : gb296 ≠ gb310)); have n9_ := Aside0.mk ((by rw [hg]; exact Nat.ne_of_gt (blk_lt (g := gb296) (o := .cells #[.slice A0_0 l0_0.length c0_0] 24 (0, 0)) (bkl BK296)) : gb310 ≠ gb296)); clear HO301; clear HO304; clear HO309; clear BK296; clear HB; have HO301 := n0_; have HO304 := n1_; have HO309 := n2_; have BK296 := n3_; have HB := n4_; have BK310 := n5_; have GW310 := n6_; have GE310 := n7_; have NB296_310 := n8_; have NB310_296 := n9_; clear n0_ n1_ n2_ n3_ n4_ n5_ n6_ n7_ n8_ n9_; clear hb hbox hg; obtain ⟨Ao35, co35, eo35⟩ := Kd.S_slice HO309.out; subst eo35; have hnb36 := NB310_296.out; have hnc36 := NB296_310.out; have hcz37_0 : w34.cell? ⟨gb310, 0, none⟩ = some (.slice none 0 0) := (blk_cell BK310.out 0).trans rfl; have hfz37_0 := blk_frozen BK310.out 0) | ((with_reducible refine gate_callee (f := 14) rfl ?_); refine goesL_ (some 36) rfl rfl Try.func14 (by kernel_rfl) rfl #[.slice A1 l1.length c1] rfl (by (try simp only [List.map_toArray, List.map_cons, List.map_nil]); first | done | rfl | (simp only [List.length_drop, List.length_take]; rfl)) ?_; (with_reducible refine (laws_toContainerS.calls k _ _ l1 t311 _ ?side1 ?side2 A19.out).mono ?_); (case side1 => exact Kd.C_below HR1.out (by repeat (first | (with_reducible first | exact HB.out | apply below_alloc | apply pw_below_drewN | apply below_drew1 | refine below_set ?_ GE296.out | refine below_set ?_ GE310.out) | exact HB.out))); (case side2 => exact HC1.out); rintro e w38 ⟨v312, rfl, ho0, hb⟩; refine ⟨_, rfl, ?_⟩; have n0_ := Aside0.mk (Kd.S_below (by (with_reducible repeat (first | apply Kd.S_alloc | apply Kd.S_drewN | apply Kd.S_drew)); exact (Kd.S_mono (Kd.S_far (p := ⟨gb310, 0, none⟩) (Kd.S_types HO301.out BK310.out (by decide)) (fun _ hk => hk.2) (.slice Ao35 t307.length co35)) (fun _ h_ => h_.1))) hb); have n1_ := Aside0.mk (Kd.R_elder' (by (with_reducible repeat (first | apply Kd.R_alloc | apply Kd.R_drewN | apply Kd.R_drew)); exact (Kd.R_mono (Kd.R_far (p := ⟨gb310, 0, none⟩) (Kd.R_types HO304.out BK310.out (by decide)) (fun _ hk => hk.2) (.slice Ao35 t307.length co35)) (fun _ h_ => h_.1))) (Kd.R_base ho0) hb); have n2_ := Aside0.mk (Kd.S_below (by (with_reducible repeat (first | apply Kd.S_alloc | apply Kd.S_drewN | apply Kd.S_drew)); exact (Kd.S_mono (Kd.S_far (p := ⟨gb310, 0, none⟩) (Kd.S_types HO309.out BK310.out (by decide)) (fun _ hk => hk.2) (.slice Ao35 t307.length co35)) (fun _ h_ => h_.1))) hb); have n3_ := Aside0.mk (Kd.R_lower (Kd.R_new' ho0 (Kd.R_lt (by (with_reducible repeat (first | apply Kd.R_alloc | apply Kd.R_drewN | apply Kd.R_drew)); exact (Kd.R_mono (Kd.R_far (p := ⟨gb310, 0, none⟩) (Kd.R_types HO304.out BK310.out (by decide)) (fun _ hk => hk.2) (.slice Ao35 t307.length co35)) (fun _ h_ => h_.1))))) (below_size (by repeat (first | (with_reducible first | exact HB.out | apply below_alloc | apply pw_below_drewN | apply below_drew1 | refine below_set ?_ GE296.out | refine below_set ?_ GE310.out) | exact HB.out)))); have n4_ := Aside0.mk (blk_below (g := gb296) (o := .cells #[.slice A0_0 l0_0.length c0_0] 24 (0, 0)) (by (with_reducible repeat (first | refine blk_drewN ?_ _ | refine blk_drew ?_ | refine blk_alloc ?_ _)); refine blk_far ?_ NB296_310.out _; (with_reducible repeat (first | refine blk_drewN ?_ _ | refine blk_drew ?_ | refine blk_alloc ?_ _)); exact BK296.out) hb); have n5_ := Aside0.mk (blk_below (g := gb310) (o := .cells #[.slice Ao35 t307.length co35] 30 (0, 0)) (by (with_reducible repeat (first | refine blk_drewN ?_ _ | refine blk_drew ?_ | refine blk_alloc ?_ _)); refine blk_put (cs := #[.slice none 0 0]) ?_ 0 _ rfl; (with_reducible repeat (first | refine blk_drewN ?_ _ | refine blk_drew ?_ | refine blk_alloc ?_ _)); exact BK310.out) hb); have n6_ := Aside0.mk (below_step (by repeat (first | (with_reducible first | exact HB.out | apply below_alloc | apply pw_below_drewN | apply below_drew1 | refine below_set ?_ GE296.out | refine below_set ?_ GE310.out) | exact HB.out)) hb); clear HO301; clear HO304; clear HO309; clear BK296; clear BK310; clear HB; have HO301 := n0_; have HO304 := n1_; have HO309 := n2_; have HO313 := n3_; have BK296 := n4_; have BK310 := n5_; have HB := n6_; clear n0_ n1_ n2_ n3_ n4_ n5_ n6_; (try clear hb); (try clear hb2); (try clear hk); (try clear hi); (try clear ho0); have hcz39_0 : w38.cell? ⟨gb310, 0, none⟩ = some (.slice Ao35 t307.length co35) := (blk_cell BK310.out 0).trans rfl; have hfz39_0 := blk_frozen BK310.out 0; obtain ⟨Ao40, co40, eo40⟩ := Kd.R_slice HO313.out; subst eo40) | ((with_reducible refine gate_callee (f := 15) rfl ?_); refine goesL_ (some 41) rfl rfl Try.func15 (by kernel_rfl) rfl #[.agg #[.slice Ao35 t307.length co35], .slice Ao40 t311.length co40, .int .i64 a2] rfl (by (try simp only [List.map_toArray, List.map_cons, List.map_nil]); first | done | rfl | (simp only [List.length_drop, List.length_take]; rfl)) ?_; (with_reducible refine (impl_KeepsYardRules.calls k _ _ t307 _ _ t311 a2 t314 t315 _ ?side1 ?side2 ?side3 ?side4 A20.out).mono ?_); (case side1 => repeat (first | exact (Kd.S_reads' HO309.out).2.2 | (with_reducible refine Kd.C_alloc ?_ _) | (with_reducible refine Kd.C_drewN ?_ _) | (with_reducible refine Kd.C_drew ?_))); (case side2 => exact (Kd.S_reads' HO309.out).2.1); (case side3 => repeat (first | exact (Kd.R_reads' HO313.out).2.2 | (with_reducible refine Kd.C_alloc ?_ _) | (with_reducible refine Kd.C_drewN ?_ _) | (with_reducible refine Kd.C_drew ?_))); (case side4 => exact (Kd.R_reads' HO313.out).2.1); rintro e w41 ⟨rfl, hb⟩; refine ⟨_, rfl, ?_⟩; have n0_ := Aside0.mk (Kd.S_below (sdl HO301) hb); have n1_ := Aside0.mk (Kd.R_below (rdl HO304) hb); have n2_ := Aside0.mk (Kd.S_below (sdl HO309) hb); have n3_ := Aside0.mk (Kd.R_below (rdl HO313) hb); have n4_ := Aside0.mk (blk_below (g := gb296) (o := .cells #[.slice A0_0 l0_0.length c0_0] 24 (0, 0)) (bkl BK296) hb); have n5_ := Aside0.mk (blk_below (g := gb310) (o := .cells #[.slice Ao35 t307.length co35] 30 (0, 0)) (bkl BK310) hb); have n6_ := Aside0.mk (below_step (by repeat (first | (with_reducible first | exact HB.out | apply below_alloc | apply pw_below_drewN | apply below_drew1 | refine below_set ?_ GE296.out | refine below_set ?_ GE310.out) | exact HB.out)) hb); clear HO301; clear HO304; clear HO309; clear HO313; clear BK296; clear BK310; clear HB; have HO301 := n0_; have HO304 := n1_; have HO309 := n2_; have HO313 := n3_; have BK296 := n4_; have BK310 := n5_; have HB := n6_; clear n0_ n1_ n2_ n3_ n4_ n5_ n6_; (try clear hb); (try clear hb2); (try clear hk); (try clear hi)))
   (try simp only [Act.put, List.setIfInBounds_toArray, List.set_cons_zero, List.set_cons_succ])
   go_cut [51] (fun v51 wc => ∃ (kq : Nat) (x51_20 : Bool), v51 = .bool x51_20 ∧ Aside0 (laws_FnExactKeepsYardRules.j0 kq l1 t311 x51_20 l0_0 t307 = some r) ∧ Aside0 (kq ≤ k) ∧ Aside0 (Kd.R k69 69 wc w.heap.size (fun _ => True) (.slice Ao40 t311.length co40) t311) ∧ Aside0 (Kd.S (Kd.slice 3 (Kd.int .i64)) 39 wc w.heap.size (fun _ => True) (.slice Ao35 t307.length co35) t307) ∧ Aside0 (wc.heap[gb296]? = some (.cells #[(.slice A0_0 l0_0.length c0_0)] 24 (0, 0))) ∧ Aside0 (wc.heap[gb310]? = some (.cells #[(.slice Ao35 t307.length co35)] 30 (0, 0))) ∧ Aside0 (Below w.heap.size w wc))
   case first =>
    have H := HC21.out
    clear HC21
    by_cases c42 : (t314 != t305) = true
    ·rw [if_pos c42] at H
     have c42b0 : (t314 != t305) = true := c42
     (try (have c42b1 : decide (t314 = t305) = false := by simpa using c42))
     (try (have c42b2 : (t314 == t305) = false := by simpa using c42))
     (try (have c42b3 : ¬ (t314 = t305) := by simpa using c42))
     clear c42
     (first | rw [c42b0] | (simp only [i64_w, i32_w]; rw [c42b0]) | skip)
     have H' := Aside0.mk H
     clear H
     go_wp2
     go_meet
     case rel => exact ⟨_, (true), (by first | rfl | (simp; done) | (simp [*]; done)), H', ⟨by first | omega | exact Nat.le_refl _⟩, ⟨by (with_reducible repeat (first | apply Kd.R_alloc | apply Kd.R_drewN | apply Kd.R_drew)); exact Kd.R_mono HO313.out (fun _ hk => trivial)⟩, ⟨by (with_reducible repeat (first | apply Kd.S_alloc | apply Kd.S_drewN | apply Kd.S_drew)); exact Kd.S_mono HO309.out (fun _ hk => trivial)⟩, ⟨bkl BK296⟩, ⟨bkl BK310⟩, ⟨by repeat (first | (with_reducible first | exact HB.out | apply below_alloc | apply pw_below_drewN | apply below_drew1 | refine below_set ?_ GE296.out | refine below_set ?_ GE310.out) | exact HB.out)⟩⟩
    ·rw [if_neg c42] at H
     have c42b0 : (t314 != t305) = false := by simpa using c42
     (try (have c42b1 : decide (t314 = t305) = true := by simpa using c42))
     (try (have c42b2 : (t314 == t305) = true := by simpa using c42))
     clear c42
     (first | rw [c42b0] | (simp only [i64_w, i32_w]; rw [c42b0]) | skip)
     have H' := Aside0.mk H
     clear H
     go_wp2
     go_meet
     case rel => exact ⟨_, ((t315 != t306)), (by first | rfl | (simp; done) | (simp [*]; done)), H', ⟨by first | omega | exact Nat.le_refl _⟩, ⟨by (with_reducible repeat (first | apply Kd.R_alloc | apply Kd.R_drewN | apply Kd.R_drew)); exact Kd.R_mono HO313.out (fun _ hk => trivial)⟩, ⟨by (with_reducible repeat (first | apply Kd.S_alloc | apply Kd.S_drewN | apply Kd.S_drew)); exact Kd.S_mono HO309.out (fun _ hk => trivial)⟩, ⟨bkl BK296⟩, ⟨bkl BK310⟩, ⟨by repeat (first | (with_reducible first | exact HB.out | apply below_alloc | apply pw_below_drewN | apply below_drew1 | refine below_set ?_ GE296.out | refine below_set ?_ GE310.out) | exact HB.out)⟩⟩
   case rest =>
    clear HC21
    try clear c1
    try clear p2
    try clear c3
    try clear c4
    try clear c5
    try clear c5b0
    try clear c10
    try clear c10b0
    try clear c11
    try clear c12
    try clear c13
    try clear c14
    try clear c15
    try clear c36
    try clear c42
    try clear c42b0
    try clear c42b1
    try clear c42b2
    try clear hcz12_0
    try clear hcz23_0
    try clear hcz26_0
    try clear hcz32_0
    try clear hcz37_0
    try clear hcz39_0
    try clear hcz7_0
    try clear hfz12_0
    try clear hfz23_0
    try clear hfz26_0
    try clear hfz32_0
    try clear hfz37_0
    try clear hfz39_0
    try clear hfz7_0
    obtain ⟨kq, x51_20, rfl, HA, HJ20, HO_11, HO_311000, BK296, BK310, HB⟩ := hcut
    cases kq with
    | zero => exact absurd HA.out (by simp [laws_FnExactKeepsYardRules.j0])
    | succ kj20 =>
     have H := HA.out
     clear HA
     simp only [laws_FnExactKeepsYardRules.j0] at H
     by_cases c43 : x51_20 = true
     ·subst c43
      have H1 : (some false) = some r := by rw [if_pos rfl] at H; exact H
      clear H
      have H := H1
      clear H1
      obtain rfl := Option.some.inj H
      go_wp2
      go_ret
      exact ⟨by first | rfl | (simp [errW_none, errW_some] <;> rfl) | (simp [*, errW_none, errW_some] <;> rfl), by repeat (first | (with_reducible first | exact HB.out | apply below_alloc | apply pw_below_drewN | apply below_drew1 | refine below_set ?_ GE296.out | refine below_set ?_ GE310.out) | exact HB.out)⟩
     ·replace c43 := Bool.eq_false_iff.mpr c43
      subst c43
      have H1 : ((laws_toYard.f kj20 l0_0).bind fun t316 => ((laws_eqYard.f kj20 t307 t316).bind fun t319 => (if t319 = true then ((laws_toContainerS.f kj20 l1).bind fun t320 => ((laws_eqContainerS.f kj20 t311 t320).bind fun t323 => (if t323 = true then (some true) else (some false)))) else (some false)))) = some r := by rw [if_neg (show ¬ (false = true) by decide)] at H; exact H
      clear H
      have H := H1
      clear H1
      replace H := Option.bind_eq_some_iff.mp H
      obtain ⟨t316, A440, H⟩ := H
      replace H : ((laws_eqYard.f kj20 t307 t316).bind fun t319 => (if t319 = true then ((laws_toContainerS.f kj20 l1).bind fun t320 => ((laws_eqContainerS.f kj20 t311 t320).bind fun t323 => (if t323 = true then (some true) else (some false)))) else (some false))) = some r := H
      have A44 := Aside0.mk A440
      clear A440
      replace H := Option.bind_eq_some_iff.mp H
      obtain ⟨t319, A450, H⟩ := H
      replace H : (if t319 = true then ((laws_toContainerS.f kj20 l1).bind fun t320 => ((laws_eqContainerS.f kj20 t311 t320).bind fun t323 => (if t323 = true then (some true) else (some false)))) else (some false)) = some r := H
      have A45 := Aside0.mk A450
      clear A450
      by_cases c46 : t319 = true
      ·subst c46
       have H1 : ((laws_toContainerS.f kj20 l1).bind fun t320 => ((laws_eqContainerS.f kj20 t311 t320).bind fun t323 => (if t323 = true then (some true) else (some false)))) = some r := by rw [if_pos rfl] at H; exact H
       clear H
       have H := H1
       clear H1
       replace H := Option.bind_eq_some_iff.mp H
       obtain ⟨t320, A470, H⟩ := H
       replace H : ((laws_eqContainerS.f kj20 t311 t320).bind fun t323 => (if t323 = true then (some true) else (some false))) = some r := H
       have A47 := Aside0.mk A470
       clear A470
       replace H := Option.bind_eq_some_iff.mp H
       obtain ⟨t323, A480, H⟩ := H
       replace H : (if t323 = true then (some true) else (some false)) = some r := H
       have A48 := Aside0.mk A480
       clear A480
       by_cases c49 : t323 = true
       ·subst c49
        have H1 : (some true) = some r := by rw [if_pos rfl] at H; exact H
        clear H
        have H := H1
        clear H1
        obtain rfl := Option.some.inj H
        try go_wp2
        have n0_ := Aside0.mk (Kd.R_drew HO_11.out)
        have n1_ := Aside0.mk (Kd.S_drew HO_311000.out)
        have n2_ := Aside0.mk (blk_drew BK296.out)
        have n3_ := Aside0.mk (blk_drew BK310.out)
        have n4_ := Aside0.mk (below_drew1 HB.out)
        clear HO_11
        clear HO_311000
        clear BK296
        clear BK310
        clear HB
        have HO_11 := n0_
        have HO_311000 := n1_
        have BK296 := n2_
        have BK310 := n3_
        have HB := n4_
        clear n0_ n1_ n2_ n3_ n4_
        refine start_ (n := 5) (S := fun w' => w'.cell? ⟨gb310, 0, none⟩ = some (.slice Ao35 t307.length co35) ∧ w'.cell? ⟨gb296, 0, none⟩ = some (.slice A0_0 l0_0.length c0_0)) (ds := []) #[false, false, false, false, false] (by kernel_rfl) rfl rfl ⟨(blk_cell BK310.out 0).trans rfl, (blk_cell BK296.out 0).trans rfl⟩ (fun hHeld => ?_)
        generalize wc.drew = w50 at HO_11 HO_311000 BK296 BK310 HB hHeld ⊢
        refine take_ (i := 0) (N := some 52) (v := ?_) (a' := ?_) #[true, false, false, false, false] rfl rfl (by kernel_rfl) (fun _ _ _ h => h) (Or.inl ⟨by rfl, ?_⟩) hHeld ?_ ?_
        rotate_left
        ·rintro w' ⟨s0, s1⟩
         go_simp
         with_reducible rfl
        rotate_left
        ·simp only [Act.put, List.setIfInBounds_toArray, List.set_cons_zero, List.set_cons_succ, i64_w, i32_w]
         rfl
        refine take_ (i := 1) (N := some 53) (v := ?_) (a' := ?_) #[true, true, false, false, false] rfl rfl (by kernel_rfl) (fun _ _ _ h => h) (Or.inl ⟨by rfl, ?_⟩) hHeld ?_ ?_
        rotate_left
        ·rintro w' ⟨s0, s1⟩
         go_simp
         with_reducible rfl
        rotate_left
        ·simp only [Act.put, List.setIfInBounds_toArray, List.set_cons_zero, List.set_cons_succ, i64_w, i32_w]
         rfl
        refine one_ (i := 2) (N := some 54) #[true, true, true, false, false] rfl rfl (by kernel_rfl) (by decide) (fun K hK => ?_)
        refine goes_ Try.func13 (by kernel_rfl) rfl #[.agg #[.slice A0_0 l0_0.length c0_0]] (by rfl) rfl rfl (by (try simp only [List.map_toArray, List.map_cons, List.map_nil]); first | done | rfl | (simp only [List.length_drop, List.length_take]; rfl)) ?_
        with_reducible refine (laws_toYard.calls kj20 _ _ l0_0 t316 _ ?side1 ?side2 A44.out).mono ?_
        (case side1 => repeat (first | exact (Kd.C_below HR0_0.out HB.out) | (with_reducible refine Kd.C_alloc ?_ _) | (with_reducible refine Kd.C_drewN ?_ _) | (with_reducible refine Kd.C_drew ?_)))
        (case side2 => exact HC0_0.out)
        rintro e w51 ⟨v317, rfl, ho0, hb⟩
        refine ⟨_, rfl, ?_⟩
        have n0_ := Aside0.mk (Kd.R_below (rdl HO_11) hb)
        have n1_ := Aside0.mk (Kd.S_elder' (sdl HO_311000) (Kd.S_base ho0) hb)
        have n2_ := Aside0.mk (Kd.S_lower (Kd.S_new' ho0 (Kd.S_lt (sdl HO_311000))) (below_size (by repeat (first | (with_reducible first | exact HB.out | apply below_alloc | apply pw_below_drewN | apply below_drew1 | refine below_set ?_ GE296.out | refine below_set ?_ GE310.out) | exact HB.out))))
        have n3_ := Aside0.mk (blk_below (g := gb296) (o := .cells #[.slice A0_0 l0_0.length c0_0] 24 (0, 0)) (bkl BK296) hb)
        have n4_ := Aside0.mk (blk_below (g := gb310) (o := .cells #[.slice Ao35 t307.length co35] 30 (0, 0)) (bkl BK310) hb)
        have n5_ := Aside0.mk (below_step (by repeat (first | (with_reducible first | exact HB.out | apply below_alloc | apply pw_below_drewN | apply below_drew1 | refine below_set ?_ GE296.out | refine below_set ?_ GE310.out) | exact HB.out)) hb)
        clear HO_11
        clear HO_311000
        clear BK296
        clear BK310
        clear HB
        have HO_11 := n0_
        have HO_311000 := n1_
        have HO318 := n2_
        have BK296 := n3_
        have BK310 := n4_
        have HB := n5_
        clear n0_ n1_ n2_ n3_ n4_ n5_
        (try clear hb)
        (try clear hb2)
        (try clear hk)
        (try clear hi)
        (try clear ho0)
        obtain ⟨Ao52, co52, eo52⟩ := Kd.S_slice HO318.out
        (first | subst eo52 | (injection eo52 with f1_ f2_ f3_; have f4_ := f1_.symm; have f5_ := f3_.symm; clear f1_ f2_ f3_; subst f4_; subst f5_))
        refine hK.out _ _ ⟨(blk_cell BK310.out 0).trans rfl, (blk_cell BK296.out 0).trans rfl⟩ (fun hHeld => ?_)
        clear hK K
        refine norm_ (a' := ?_) ?_ ?_
        rotate_left
        ·show Act.put _ (some 54) _ = _
         simp only [Act.put, List.setIfInBounds_toArray, List.set_cons_zero, List.set_cons_succ, i64_w, i32_w]
         rfl
        refine one_ (i := 3) (N := some 55) #[true, true, true, true, false] rfl rfl (by kernel_rfl) (by decide) (fun K hK => ?_)
        refine goes_ Try.func16 (by kernel_rfl) rfl #[.agg #[.slice Ao35 t307.length co35], .agg #[.slice Ao52 t316.length co52]] (by rfl) rfl rfl (by (try simp only [List.map_toArray, List.map_cons, List.map_nil]); first | done | rfl | (simp only [List.length_drop, List.length_take]; rfl)) ?_
        with_reducible refine (laws_eqYard.calls kj20 _ _ t307 _ _ t316 true _ ?side1 ?side2 ?side3 ?side4 A45.out).mono ?_
        (case side1 => repeat (first | exact (Kd.S_reads' HO_311000.out).2.2 | (with_reducible refine Kd.C_alloc ?_ _) | (with_reducible refine Kd.C_drewN ?_ _) | (with_reducible refine Kd.C_drew ?_)))
        (case side2 => exact (Kd.S_reads' HO_311000.out).2.1)
        (case side3 => repeat (first | exact (Kd.S_reads' HO318.out).2.2 | (with_reducible refine Kd.C_alloc ?_ _) | (with_reducible refine Kd.C_drewN ?_ _) | (with_reducible refine Kd.C_drew ?_)))
        (case side4 => exact (Kd.S_reads' HO318.out).2.1)
        rintro e w53 ⟨rfl, hb⟩
        refine ⟨_, rfl, ?_⟩
        have n0_ := Aside0.mk (Kd.R_below (rdl HO_11) hb)
        have n1_ := Aside0.mk (Kd.S_below (sdl HO_311000) hb)
        have n2_ := Aside0.mk (Kd.S_below (sdl HO318) hb)
        have n3_ := Aside0.mk (blk_below (g := gb296) (o := .cells #[.slice A0_0 l0_0.length c0_0] 24 (0, 0)) (bkl BK296) hb)
        have n4_ := Aside0.mk (blk_below (g := gb310) (o := .cells #[.slice Ao35 t307.length co35] 30 (0, 0)) (bkl BK310) hb)
        have n5_ := Aside0.mk (below_step (by repeat (first | (with_reducible first | exact HB.out | apply below_alloc | apply pw_below_drewN | apply below_drew1 | refine below_set ?_ GE296.out | refine below_set ?_ GE310.out) | exact HB.out)) hb)
        clear HO_11
        clear HO_311000
        clear HO318
        clear BK296
        clear BK310
        clear HB
        have HO_11 := n0_
        have HO_311000 := n1_
        have HO318 := n2_
        have BK296 := n3_
        have BK310 := n4_
        have HB := n5_
        clear n0_ n1_ n2_ n3_ n4_ n5_
        (try clear hb)
        (try clear hb2)
        (try clear hk)
        (try clear hi)
        refine hK.out _ _ ⟨(blk_cell BK310.out 0).trans rfl, (blk_cell BK296.out 0).trans rfl⟩ (fun hHeld => ?_)
        clear hK K
        refine norm_ (a' := ?_) ?_ ?_
        rotate_left
        ·show Act.put _ (some 55) _ = _
         simp only [Act.put, List.setIfInBounds_toArray, List.set_cons_zero, List.set_cons_succ, i64_w, i32_w]
         rfl
        refine pure_ (i := 4) (N := some 56) (v := ?_) (a' := ?_) #[true, true, true, true, true] rfl rfl (by kernel_rfl) (fun _ _ _ h => h) (Or.inl ⟨by rfl, ?_⟩) ?_ ?_
        rotate_left
        ·intro w'
         go_simp
         with_reducible rfl
        rotate_left
        ·simp only [Act.put, List.setIfInBounds_toArray, List.set_cons_zero, List.set_cons_succ, i64_w, i32_w]
         rfl
        refine done_ (by kernel_rfl) ?_
        try go_wp2_with (first | ((with_reducible refine gate_callee (f := 14) rfl ?_); refine goesL_ (some 59) rfl rfl Try.func14 (by kernel_rfl) rfl #[.slice A1 l1.length c1] rfl (by (try simp only [List.map_toArray, List.map_cons, List.map_nil]); first | done | rfl | (simp only [List.length_drop, List.length_take]; rfl)) ?_; (with_reducible refine (laws_toContainerS.calls kj20 _ _ l1 t320 _ ?side1 ?side2 A47.out).mono ?_); (case side1 => repeat (first | exact (Kd.C_below HR1.out HB.out) | (with_reducible refine Kd.C_alloc ?_ _) | (with_reducible refine Kd.C_drewN ?_ _) | (with_reducible refine Kd.C_drew ?_))); (case side2 => exact HC1.out); rintro e w54 ⟨v321, rfl, ho0, hb⟩; refine ⟨_, rfl, ?_⟩; have n0_ := Aside0.mk (Kd.R_elder' (rdl HO_11) (Kd.R_base ho0) hb); have n1_ := Aside0.mk (Kd.S_below (sdl HO_311000) hb); have n2_ := Aside0.mk (Kd.S_below (sdl HO318) hb); have n3_ := Aside0.mk (Kd.R_lower (Kd.R_new' ho0 (Kd.R_lt (rdl HO_11))) (below_size (by repeat (first | (with_reducible first | exact HB.out | apply below_alloc | apply pw_below_drewN | apply below_drew1 | refine below_set ?_ GE296.out | refine below_set ?_ GE310.out) | exact HB.out)))); have n4_ := Aside0.mk (blk_below (g := gb296) (o := .cells #[.slice A0_0 l0_0.length c0_0] 24 (0, 0)) (bkl BK296) hb); have n5_ := Aside0.mk (blk_below (g := gb310) (o := .cells #[.slice Ao35 t307.length co35] 30 (0, 0)) (bkl BK310) hb); have n6_ := Aside0.mk (below_step (by repeat (first | (with_reducible first | exact HB.out | apply below_alloc | apply pw_below_drewN | apply below_drew1 | refine below_set ?_ GE296.out | refine below_set ?_ GE310.out) | exact HB.out)) hb); clear HO_11; clear HO_311000; clear HO318; clear BK296; clear BK310; clear HB; have HO_11 := n0_; have HO_311000 := n1_; have HO318 := n2_; have HO322 := n3_; have BK296 := n4_; have BK310 := n5_; have HB := n6_; clear n0_ n1_ n2_ n3_ n4_ n5_ n6_; (try clear hb); (try clear hb2); (try clear hk); (try clear hi); (try clear ho0); obtain ⟨Ao55, co55, eo55⟩ := Kd.R_slice HO322.out; subst eo55) | ((with_reducible refine gate_callee (f := 17) rfl ?_); refine goesL_ (some 60) rfl rfl Try.func17 (by kernel_rfl) rfl #[.slice Ao40 t311.length co40, .slice Ao55 t320.length co55] rfl (by (try simp only [List.map_toArray, List.map_cons, List.map_nil]); first | done | rfl | (simp only [List.length_drop, List.length_take]; rfl)) ?_; (with_reducible refine (laws_eqContainerS.calls kj20 _ _ t311 _ _ t320 true _ ?side1 ?side2 ?side3 ?side4 A48.out).mono ?_); (case side1 => repeat (first | exact (Kd.R_reads' HO_11.out).2.2 | (with_reducible refine Kd.C_alloc ?_ _) | (with_reducible refine Kd.C_drewN ?_ _) | (with_reducible refine Kd.C_drew ?_))); (case side2 => exact (Kd.R_reads' HO_11.out).2.1); (case side3 => repeat (first | exact (Kd.R_reads' HO322.out).2.2 | (with_reducible refine Kd.C_alloc ?_ _) | (with_reducible refine Kd.C_drewN ?_ _) | (with_reducible refine Kd.C_drew ?_))); (case side4 => exact (Kd.R_reads' HO322.out).2.1); rintro e w56 ⟨rfl, hb⟩; refine ⟨_, rfl, ?_⟩; have n0_ := Aside0.mk (Kd.R_below (rdl HO_11) hb); have n1_ := Aside0.mk (Kd.S_below (sdl HO_311000) hb); have n2_ := Aside0.mk (Kd.S_below (sdl HO318) hb); have n3_ := Aside0.mk (Kd.R_below (rdl HO322) hb); have n4_ := Aside0.mk (blk_below (g := gb296) (o := .cells #[.slice A0_0 l0_0.length c0_0] 24 (0, 0)) (bkl BK296) hb); have n5_ := Aside0.mk (blk_below (g := gb310) (o := .cells #[.slice Ao35 t307.length co35] 30 (0, 0)) (bkl BK310) hb); have n6_ := Aside0.mk (below_step (by repeat (first | (with_reducible first | exact HB.out | apply below_alloc | apply pw_below_drewN | apply below_drew1 | refine below_set ?_ GE296.out | refine below_set ?_ GE310.out) | exact HB.out)) hb); clear HO_11; clear HO_311000; clear HO318; clear HO322; clear BK296; clear BK310; clear HB; have HO_11 := n0_; have HO_311000 := n1_; have HO318 := n2_; have HO322 := n3_; have BK296 := n4_; have BK310 := n5_; have HB := n6_; clear n0_ n1_ n2_ n3_ n4_ n5_ n6_; (try clear hb); (try clear hb2); (try clear hk); (try clear hi)))
        go_ret
        exact ⟨by first | rfl | (simp [errW_none, errW_some] <;> rfl) | (simp [*, errW_none, errW_some] <;> rfl), by repeat (first | (with_reducible first | exact HB.out | apply below_alloc | apply pw_below_drewN | apply below_drew1 | refine below_set ?_ GE296.out | refine below_set ?_ GE310.out) | exact HB.out)⟩
       ·replace c49 := Bool.eq_false_iff.mpr c49
        subst c49
        have H1 : (some false) = some r := by rw [if_neg (show ¬ (false = true) by decide)] at H; exact H
        clear H
        have H := H1
        clear H1
        obtain rfl := Option.some.inj H
        try go_wp2
        have n0_ := Aside0.mk (Kd.R_drew HO_11.out)
        have n1_ := Aside0.mk (Kd.S_drew HO_311000.out)
        have n2_ := Aside0.mk (blk_drew BK296.out)
        have n3_ := Aside0.mk (blk_drew BK310.out)
        have n4_ := Aside0.mk (below_drew1 HB.out)
        clear HO_11
        clear HO_311000
        clear BK296
        clear BK310
        clear HB
        have HO_11 := n0_
        have HO_311000 := n1_
        have BK296 := n2_
        have BK310 := n3_
        have HB := n4_
        clear n0_ n1_ n2_ n3_ n4_
        refine start_ (n := 5) (S := fun w' => w'.cell? ⟨gb310, 0, none⟩ = some (.slice Ao35 t307.length co35) ∧ w'.cell? ⟨gb296, 0, none⟩ = some (.slice A0_0 l0_0.length c0_0)) (ds := []) #[false, false, false, false, false] (by kernel_rfl) rfl rfl ⟨(blk_cell BK310.out 0).trans rfl, (blk_cell BK296.out 0).trans rfl⟩ (fun hHeld => ?_)
        generalize wc.drew = w57 at HO_11 HO_311000 BK296 BK310 HB hHeld ⊢
        refine take_ (i := 0) (N := some 52) (v := ?_) (a' := ?_) #[true, false, false, false, false] rfl rfl (by kernel_rfl) (fun _ _ _ h => h) (Or.inl ⟨by rfl, ?_⟩) hHeld ?_ ?_
        rotate_left
        ·rintro w' ⟨s0, s1⟩
         go_simp
         with_reducible rfl
        rotate_left
        ·simp only [Act.put, List.setIfInBounds_toArray, List.set_cons_zero, List.set_cons_succ, i64_w, i32_w]
         rfl
        refine take_ (i := 1) (N := some 53) (v := ?_) (a' := ?_) #[true, true, false, false, false] rfl rfl (by kernel_rfl) (fun _ _ _ h => h) (Or.inl ⟨by rfl, ?_⟩) hHeld ?_ ?_
        rotate_left
        ·rintro w' ⟨s0, s1⟩
         go_simp
         with_reducible rfl
        rotate_left
        ·simp only [Act.put, List.setIfInBounds_toArray, List.set_cons_zero, List.set_cons_succ, i64_w, i32_w]
         rfl
        refine one_ (i := 2) (N := some 54) #[true, true, true, false, false] rfl rfl (by kernel_rfl) (by decide) (fun K hK => ?_)
        refine goes_ Try.func13 (by kernel_rfl) rfl #[.agg #[.slice A0_0 l0_0.length c0_0]] (by rfl) rfl rfl (by (try simp only [List.map_toArray, List.map_cons, List.map_nil]); first | done | rfl | (simp only [List.length_drop, List.length_take]; rfl)) ?_
        with_reducible refine (laws_toYard.calls kj20 _ _ l0_0 t316 _ ?side1 ?side2 A44.out).mono ?_
        (case side1 => repeat (first | exact (Kd.C_below HR0_0.out HB.out) | (with_reducible refine Kd.C_alloc ?_ _) | (with_reducible refine Kd.C_drewN ?_ _) | (with_reducible refine Kd.C_drew ?_)))
        (case side2 => exact HC0_0.out)
        rintro e w58 ⟨v317, rfl, ho0, hb⟩
        refine ⟨_, rfl, ?_⟩
        have n0_ := Aside0.mk (Kd.R_below (rdl HO_11) hb)
        have n1_ := Aside0.mk (Kd.S_elder' (sdl HO_311000) (Kd.S_base ho0) hb)
        have n2_ := Aside0.mk (Kd.S_lower (Kd.S_new' ho0 (Kd.S_lt (sdl HO_311000))) (below_size (by repeat (first | (with_reducible first | exact HB.out | apply below_alloc | apply pw_below_drewN | apply below_drew1 | refine below_set ?_ GE296.out | refine below_set ?_ GE310.out) | exact HB.out))))
        have n3_ := Aside0.mk (blk_below (g := gb296) (o := .cells #[.slice A0_0 l0_0.length c0_0] 24 (0, 0)) (bkl BK296) hb)
        have n4_ := Aside0.mk (blk_below (g := gb310) (o := .cells #[.slice Ao35 t307.length co35] 30 (0, 0)) (bkl BK310) hb)
        have n5_ := Aside0.mk (below_step (by repeat (first | (with_reducible first | exact HB.out | apply below_alloc | apply pw_below_drewN | apply below_drew1 | refine below_set ?_ GE296.out | refine below_set ?_ GE310.out) | exact HB.out)) hb)
        clear HO_11
        clear HO_311000
        clear BK296
        clear BK310
        clear HB
        have HO_11 := n0_
        have HO_311000 := n1_
        have HO318 := n2_
        have BK296 := n3_
        have BK310 := n4_
        have HB := n5_
        clear n0_ n1_ n2_ n3_ n4_ n5_
        (try clear hb)
        (try clear hb2)
        (try clear hk)
        (try clear hi)
        (try clear ho0)
        obtain ⟨Ao59, co59, eo59⟩ := Kd.S_slice HO318.out
        (first | subst eo59 | (injection eo59 with f1_ f2_ f3_; have f4_ := f1_.symm; have f5_ := f3_.symm; clear f1_ f2_ f3_; subst f4_; subst f5_))
        refine hK.out _ _ ⟨(blk_cell BK310.out 0).trans rfl, (blk_cell BK296.out 0).trans rfl⟩ (fun hHeld => ?_)
        clear hK K
        refine norm_ (a' := ?_) ?_ ?_
        rotate_left
        ·show Act.put _ (some 54) _ = _
         simp only [Act.put, List.setIfInBounds_toArray, List.set_cons_zero, List.set_cons_succ, i64_w, i32_w]
         rfl
        refine one_ (i := 3) (N := some 55) #[true, true, true, true, false] rfl rfl (by kernel_rfl) (by decide) (fun K hK => ?_)
        refine goes_ Try.func16 (by kernel_rfl) rfl #[.agg #[.slice Ao35 t307.length co35], .agg #[.slice Ao59 t316.length co59]] (by rfl) rfl rfl (by (try simp only [List.map_toArray, List.map_cons, List.map_nil]); first | done | rfl | (simp only [List.length_drop, List.length_take]; rfl)) ?_
        with_reducible refine (laws_eqYard.calls kj20 _ _ t307 _ _ t316 true _ ?side1 ?side2 ?side3 ?side4 A45.out).mono ?_
        (case side1 => repeat (first | exact (Kd.S_reads' HO_311000.out).2.2 | (with_reducible refine Kd.C_alloc ?_ _) | (with_reducible refine Kd.C_drewN ?_ _) | (with_reducible refine Kd.C_drew ?_)))
        (case side2 => exact (Kd.S_reads' HO_311000.out).2.1)
        (case side3 => repeat (first | exact (Kd.S_reads' HO318.out).2.2 | (with_reducible refine Kd.C_alloc ?_ _) | (with_reducible refine Kd.C_drewN ?_ _) | (with_reducible refine Kd.C_drew ?_)))
        (case side4 => exact (Kd.S_reads' HO318.out).2.1)
        rintro e w60 ⟨rfl, hb⟩
        refine ⟨_, rfl, ?_⟩
        have n0_ := Aside0.mk (Kd.R_below (rdl HO_11) hb)
        have n1_ := Aside0.mk (Kd.S_below (sdl HO_311000) hb)
        have n2_ := Aside0.mk (Kd.S_below (sdl HO318) hb)
        have n3_ := Aside0.mk (blk_below (g := gb296) (o := .cells #[.slice A0_0 l0_0.length c0_0] 24 (0, 0)) (bkl BK296) hb)
        have n4_ := Aside0.mk (blk_below (g := gb310) (o := .cells #[.slice Ao35 t307.length co35] 30 (0, 0)) (bkl BK310) hb)
        have n5_ := Aside0.mk (below_step (by repeat (first | (with_reducible first | exact HB.out | apply below_alloc | apply pw_below_drewN | apply below_drew1 | refine below_set ?_ GE296.out | refine below_set ?_ GE310.out) | exact HB.out)) hb)
        clear HO_11
        clear HO_311000
        clear HO318
        clear BK296
        clear BK310
        clear HB
        have HO_11 := n0_
        have HO_311000 := n1_
        have HO318 := n2_
        have BK296 := n3_
        have BK310 := n4_
        have HB := n5_
        clear n0_ n1_ n2_ n3_ n4_ n5_
        (try clear hb)
        (try clear hb2)
        (try clear hk)
        (try clear hi)
        refine hK.out _ _ ⟨(blk_cell BK310.out 0).trans rfl, (blk_cell BK296.out 0).trans rfl⟩ (fun hHeld => ?_)
        clear hK K
        refine norm_ (a' := ?_) ?_ ?_
        rotate_left
        ·show Act.put _ (some 55) _ = _
         simp only [Act.put, List.setIfInBounds_toArray, List.set_cons_zero, List.set_cons_succ, i64_w, i32_w]
         rfl
        refine pure_ (i := 4) (N := some 56) (v := ?_) (a' := ?_) #[true, true, true, true, true] rfl rfl (by kernel_rfl) (fun _ _ _ h => h) (Or.inl ⟨by rfl, ?_⟩) ?_ ?_
        rotate_left
        ·intro w'
         go_simp
         with_reducible rfl
        rotate_left
        ·simp only [Act.put, List.setIfInBounds_toArray, List.set_cons_zero, List.set_cons_succ, i64_w, i32_w]
         rfl
        refine done_ (by kernel_rfl) ?_
        try go_wp2_with (first | ((with_reducible refine gate_callee (f := 14) rfl ?_); refine goesL_ (some 59) rfl rfl Try.func14 (by kernel_rfl) rfl #[.slice A1 l1.length c1] rfl (by (try simp only [List.map_toArray, List.map_cons, List.map_nil]); first | done | rfl | (simp only [List.length_drop, List.length_take]; rfl)) ?_; (with_reducible refine (laws_toContainerS.calls kj20 _ _ l1 t320 _ ?side1 ?side2 A47.out).mono ?_); (case side1 => repeat (first | exact (Kd.C_below HR1.out HB.out) | (with_reducible refine Kd.C_alloc ?_ _) | (with_reducible refine Kd.C_drewN ?_ _) | (with_reducible refine Kd.C_drew ?_))); (case side2 => exact HC1.out); rintro e w61 ⟨v321, rfl, ho0, hb⟩; refine ⟨_, rfl, ?_⟩; have n0_ := Aside0.mk (Kd.R_elder' (rdl HO_11) (Kd.R_base ho0) hb); have n1_ := Aside0.mk (Kd.S_below (sdl HO_311000) hb); have n2_ := Aside0.mk (Kd.S_below (sdl HO318) hb); have n3_ := Aside0.mk (Kd.R_lower (Kd.R_new' ho0 (Kd.R_lt (rdl HO_11))) (below_size (by repeat (first | (with_reducible first | exact HB.out | apply below_alloc | apply pw_below_drewN | apply below_drew1 | refine below_set ?_ GE296.out | refine below_set ?_ GE310.out) | exact HB.out)))); have n4_ := Aside0.mk (blk_below (g := gb296) (o := .cells #[.slice A0_0 l0_0.length c0_0] 24 (0, 0)) (bkl BK296) hb); have n5_ := Aside0.mk (blk_below (g := gb310) (o := .cells #[.slice Ao35 t307.length co35] 30 (0, 0)) (bkl BK310) hb); have n6_ := Aside0.mk (below_step (by repeat (first | (with_reducible first | exact HB.out | apply below_alloc | apply pw_below_drewN | apply below_drew1 | refine below_set ?_ GE296.out | refine below_set ?_ GE310.out) | exact HB.out)) hb); clear HO_11; clear HO_311000; clear HO318; clear BK296; clear BK310; clear HB; have HO_11 := n0_; have HO_311000 := n1_; have HO318 := n2_; have HO322 := n3_; have BK296 := n4_; have BK310 := n5_; have HB := n6_; clear n0_ n1_ n2_ n3_ n4_ n5_ n6_; (try clear hb); (try clear hb2); (try clear hk); (try clear hi); (try clear ho0); obtain ⟨Ao62, co62, eo62⟩ := Kd.R_slice HO322.out; subst eo62) | ((with_reducible refine gate_callee (f := 17) rfl ?_); refine goesL_ (some 60) rfl rfl Try.func17 (by kernel_rfl) rfl #[.slice Ao40 t311.length co40, .slice Ao62 t320.length co62] rfl (by (try simp only [List.map_toArray, List.map_cons, List.map_nil]); first | done | rfl | (simp only [List.length_drop, List.length_take]; rfl)) ?_; (with_reducible refine (laws_eqContainerS.calls kj20 _ _ t311 _ _ t320 false _ ?side1 ?side2 ?side3 ?side4 A48.out).mono ?_); (case side1 => repeat (first | exact (Kd.R_reads' HO_11.out).2.2 | (with_reducible refine Kd.C_alloc ?_ _) | (with_reducible refine Kd.C_drewN ?_ _) | (with_reducible refine Kd.C_drew ?_))); (case side2 => exact (Kd.R_reads' HO_11.out).2.1); (case side3 => repeat (first | exact (Kd.R_reads' HO322.out).2.2 | (with_reducible refine Kd.C_alloc ?_ _) | (with_reducible refine Kd.C_drewN ?_ _) | (with_reducible refine Kd.C_drew ?_))); (case side4 => exact (Kd.R_reads' HO322.out).2.1); rintro e w63 ⟨rfl, hb⟩; refine ⟨_, rfl, ?_⟩; have n0_ := Aside0.mk (Kd.R_below (rdl HO_11) hb); have n1_ := Aside0.mk (Kd.S_below (sdl HO_311000) hb); have n2_ := Aside0.mk (Kd.S_below (sdl HO318) hb); have n3_ := Aside0.mk (Kd.R_below (rdl HO322) hb); have n4_ := Aside0.mk (blk_below (g := gb296) (o := .cells #[.slice A0_0 l0_0.length c0_0] 24 (0, 0)) (bkl BK296) hb); have n5_ := Aside0.mk (blk_below (g := gb310) (o := .cells #[.slice Ao35 t307.length co35] 30 (0, 0)) (bkl BK310) hb); have n6_ := Aside0.mk (below_step (by repeat (first | (with_reducible first | exact HB.out | apply below_alloc | apply pw_below_drewN | apply below_drew1 | refine below_set ?_ GE296.out | refine below_set ?_ GE310.out) | exact HB.out)) hb); clear HO_11; clear HO_311000; clear HO318; clear HO322; clear BK296; clear BK310; clear HB; have HO_11 := n0_; have HO_311000 := n1_; have HO318 := n2_; have HO322 := n3_; have BK296 := n4_; have BK310 := n5_; have HB := n6_; clear n0_ n1_ n2_ n3_ n4_ n5_ n6_; (try clear hb); (try clear hb2); (try clear hk); (try clear hi)))
        go_ret
        exact ⟨by first | rfl | (simp [errW_none, errW_some] <;> rfl) | (simp [*, errW_none, errW_some] <;> rfl), by repeat (first | (with_reducible first | exact HB.out | apply below_alloc | apply pw_below_drewN | apply below_drew1 | refine below_set ?_ GE296.out | refine below_set ?_ GE310.out) | exact HB.out)⟩
      ·replace c46 := Bool.eq_false_iff.mpr c46
       subst c46
       have H1 : (some false) = some r := by rw [if_neg (show ¬ (false = true) by decide)] at H; exact H
       clear H
       have H := H1
       clear H1
       obtain rfl := Option.some.inj H
       try go_wp2
       have n0_ := Aside0.mk (Kd.R_drew HO_11.out)
       have n1_ := Aside0.mk (Kd.S_drew HO_311000.out)
       have n2_ := Aside0.mk (blk_drew BK296.out)
       have n3_ := Aside0.mk (blk_drew BK310.out)
       have n4_ := Aside0.mk (below_drew1 HB.out)
       clear HO_11
       clear HO_311000
       clear BK296
       clear BK310
       clear HB
       have HO_11 := n0_
       have HO_311000 := n1_
       have BK296 := n2_
       have BK310 := n3_
       have HB := n4_
       clear n0_ n1_ n2_ n3_ n4_
       refine start_ (n := 5) (S := fun w' => w'.cell? ⟨gb310, 0, none⟩ = some (.slice Ao35 t307.length co35) ∧ w'.cell? ⟨gb296, 0, none⟩ = some (.slice A0_0 l0_0.length c0_0)) (ds := []) #[false, false, false, false, false] (by kernel_rfl) rfl rfl ⟨(blk_cell BK310.out 0).trans rfl, (blk_cell BK296.out 0).trans rfl⟩ (fun hHeld => ?_)
       generalize wc.drew = w64 at HO_11 HO_311000 BK296 BK310 HB hHeld ⊢
       refine take_ (i := 0) (N := some 52) (v := ?_) (a' := ?_) #[true, false, false, false, false] rfl rfl (by kernel_rfl) (fun _ _ _ h => h) (Or.inl ⟨by rfl, ?_⟩) hHeld ?_ ?_
       rotate_left
       ·rintro w' ⟨s0, s1⟩
        go_simp
        with_reducible rfl
       rotate_left
       ·simp only [Act.put, List.setIfInBounds_toArray, List.set_cons_zero, List.set_cons_succ, i64_w, i32_w]
        rfl
       refine take_ (i := 1) (N := some 53) (v := ?_) (a' := ?_) #[true, true, false, false, false] rfl rfl (by kernel_rfl) (fun _ _ _ h => h) (Or.inl ⟨by rfl, ?_⟩) hHeld ?_ ?_
       rotate_left
       ·rintro w' ⟨s0, s1⟩
        go_simp
        with_reducible rfl
       rotate_left
       ·simp only [Act.put, List.setIfInBounds_toArray, List.set_cons_zero, List.set_cons_succ, i64_w, i32_w]
        rfl
       refine one_ (i := 2) (N := some 54) #[true, true, true, false, false] rfl rfl (by kernel_rfl) (by decide) (fun K hK => ?_)
       refine goes_ Try.func13 (by kernel_rfl) rfl #[.agg #[.slice A0_0 l0_0.length c0_0]] (by rfl) rfl rfl (by (try simp only [List.map_toArray, List.map_cons, List.map_nil]); first | done | rfl | (simp only [List.length_drop, List.length_take]; rfl)) ?_
       with_reducible refine (laws_toYard.calls kj20 _ _ l0_0 t316 _ ?side1 ?side2 A44.out).mono ?_
       (case side1 => repeat (first | exact (Kd.C_below HR0_0.out HB.out) | (with_reducible refine Kd.C_alloc ?_ _) | (with_reducible refine Kd.C_drewN ?_ _) | (with_reducible refine Kd.C_drew ?_)))
       (case side2 => exact HC0_0.out)
       rintro e w65 ⟨v317, rfl, ho0, hb⟩
       refine ⟨_, rfl, ?_⟩
       have n0_ := Aside0.mk (Kd.R_below (rdl HO_11) hb)
       have n1_ := Aside0.mk (Kd.S_elder' (sdl HO_311000) (Kd.S_base ho0) hb)
       have n2_ := Aside0.mk (Kd.S_lower (Kd.S_new' ho0 (Kd.S_lt (sdl HO_311000))) (below_size (by repeat (first | (with_reducible first | exact HB.out | apply below_alloc | apply pw_below_drewN | apply below_drew1 | refine below_set ?_ GE296.out | refine below_set ?_ GE310.out) | exact HB.out))))
       have n3_ := Aside0.mk (blk_below (g := gb296) (o := .cells #[.slice A0_0 l0_0.length c0_0] 24 (0, 0)) (bkl BK296) hb)
       have n4_ := Aside0.mk (blk_below (g := gb310) (o := .cells #[.slice Ao35 t307.length co35] 30 (0, 0)) (bkl BK310) hb)
       have n5_ := Aside0.mk (below_step (by repeat (first | (with_reducible first | exact HB.out | apply below_alloc | apply pw_below_drewN | apply below_drew1 | refine below_set ?_ GE296.out | refine below_set ?_ GE310.out) | exact HB.out)) hb)
       clear HO_11
       clear HO_311000
       clear BK296
       clear BK310
       clear HB
       have HO_11 := n0_
       have HO_311000 := n1_
       have HO318 := n2_
       have BK296 := n3_
       have BK310 := n4_
       have HB := n5_
       clear n0_ n1_ n2_ n3_ n4_ n5_
       (try clear hb)
       (try clear hb2)
       (try clear hk)
       (try clear hi)
       (try clear ho0)
       obtain ⟨Ao66, co66, eo66⟩ := Kd.S_slice HO318.out
       (first | subst eo66 | (injection eo66 with f1_ f2_ f3_; have f4_ := f1_.symm; have f5_ := f3_.symm; clear f1_ f2_ f3_; subst f4_; subst f5_))
       refine hK.out _ _ ⟨(blk_cell BK310.out 0).trans rfl, (blk_cell BK296.out 0).trans rfl⟩ (fun hHeld => ?_)
       clear hK K
       refine norm_ (a' := ?_) ?_ ?_
       rotate_left
       ·show Act.put _ (some 54) _ = _
        simp only [Act.put, List.setIfInBounds_toArray, List.set_cons_zero, List.set_cons_succ, i64_w, i32_w]
        rfl
       refine one_ (i := 3) (N := some 55) #[true, true, true, true, false] rfl rfl (by kernel_rfl) (by decide) (fun K hK => ?_)
       refine goes_ Try.func16 (by kernel_rfl) rfl #[.agg #[.slice Ao35 t307.length co35], .agg #[.slice Ao66 t316.length co66]] (by rfl) rfl rfl (by (try simp only [List.map_toArray, List.map_cons, List.map_nil]); first | done | rfl | (simp only [List.length_drop, List.length_take]; rfl)) ?_
       with_reducible refine (laws_eqYard.calls kj20 _ _ t307 _ _ t316 false _ ?side1 ?side2 ?side3 ?side4 A45.out).mono ?_
       (case side1 => repeat (first | exact (Kd.S_reads' HO_311000.out).2.2 | (with_reducible refine Kd.C_alloc ?_ _) | (with_reducible refine Kd.C_drewN ?_ _) | (with_reducible refine Kd.C_drew ?_)))
       (case side2 => exact (Kd.S_reads' HO_311000.out).2.1)
       (case side3 => repeat (first | exact (Kd.S_reads' HO318.out).2.2 | (with_reducible refine Kd.C_alloc ?_ _) | (with_reducible refine Kd.C_drewN ?_ _) | (with_reducible refine Kd.C_drew ?_)))
       (case side4 => exact (Kd.S_reads' HO318.out).2.1)
       rintro e w67 ⟨rfl, hb⟩
       refine ⟨_, rfl, ?_⟩
       have n0_ := Aside0.mk (Kd.R_below (rdl HO_11) hb)
       have n1_ := Aside0.mk (Kd.S_below (sdl HO_311000) hb)
       have n2_ := Aside0.mk (Kd.S_below (sdl HO318) hb)
       have n3_ := Aside0.mk (blk_below (g := gb296) (o := .cells #[.slice A0_0 l0_0.length c0_0] 24 (0, 0)) (bkl BK296) hb)
       have n4_ := Aside0.mk (blk_below (g := gb310) (o := .cells #[.slice Ao35 t307.length co35] 30 (0, 0)) (bkl BK310) hb)
       have n5_ := Aside0.mk (below_step (by repeat (first | (with_reducible first | exact HB.out | apply below_alloc | apply pw_below_drewN | apply below_drew1 | refine below_set ?_ GE296.out | refine below_set ?_ GE310.out) | exact HB.out)) hb)
       clear HO_11
       clear HO_311000
       clear HO318
       clear BK296
       clear BK310
       clear HB
       have HO_11 := n0_
       have HO_311000 := n1_
       have HO318 := n2_
       have BK296 := n3_
       have BK310 := n4_
       have HB := n5_
       clear n0_ n1_ n2_ n3_ n4_ n5_
       (try clear hb)
       (try clear hb2)
       (try clear hk)
       (try clear hi)
       refine hK.out _ _ ⟨(blk_cell BK310.out 0).trans rfl, (blk_cell BK296.out 0).trans rfl⟩ (fun hHeld => ?_)
       clear hK K
       refine norm_ (a' := ?_) ?_ ?_
       rotate_left
       ·show Act.put _ (some 55) _ = _
        simp only [Act.put, List.setIfInBounds_toArray, List.set_cons_zero, List.set_cons_succ, i64_w, i32_w]
        rfl
       refine pure_ (i := 4) (N := some 56) (v := ?_) (a' := ?_) #[true, true, true, true, true] rfl rfl (by kernel_rfl) (fun _ _ _ h => h) (Or.inl ⟨by rfl, ?_⟩) ?_ ?_
       rotate_left
       ·intro w'
        go_simp
        with_reducible rfl
       rotate_left
       ·simp only [Act.put, List.setIfInBounds_toArray, List.set_cons_zero, List.set_cons_succ, i64_w, i32_w]
        rfl
       refine done_ (by kernel_rfl) ?_
       try go_wp2
       go_ret
       exact ⟨by first | rfl | (simp [errW_none, errW_some] <;> rfl) | (simp [*, errW_none, errW_some] <;> rfl), by repeat (first | (with_reducible first | exact HB.out | apply below_alloc | apply pw_below_drewN | apply below_drew1 | refine below_set ?_ GE296.out | refine below_set ?_ GE310.out) | exact HB.out)⟩

/-- THE ONE PURE STATEMENT of laws_FnExactKeepsYardRules. -/
def laws_FnExactKeepsYardRules.Pure : Prop := ∀ (s0 : S24) (l1 : List (S65)) (a2 : Int), G24 s0 → (l1.length ≤ maxLen ∧ ∀ z324, z324 ∈ l1 → G65 z324) → (Lit.int .i64 a2).wf = true → ∃ k, laws_FnExactKeepsYardRules.f k s0.f0 l1 a2 = some true
theorem laws_FnExactKeepsYardRules.walk (P : laws_FnExactKeepsYardRules.Pure) (A0_0 : Option Addr) (c0_0 : Nat) (s0 : S24) (A1 : Option Addr) (c1 : Nat) (l1 : List (S65)) (a2 : Int) (w : World) (hr0_0 : Kd.C (Kd.slice 3 (Kd.int .i64)) w A0_0 s0.f0.length s0.f0) (hc0_0 : s0.f0.length ≤ c0_0) (g0 : G24 s0) (hr1 : Kd.C k65 w A1 l1.length l1) (hc1 : l1.length ≤ c1) (g1 : (l1.length ≤ maxLen ∧ ∀ z325, z325 ∈ l1 → G65 z325)) (g2 : (Lit.int .i64 a2).wf = true) :
  Calls Try.prog 3 #[.agg #[.slice A0_0 s0.f0.length c0_0], .slice A1 l1.length c1, .int .i64 a2] w fun e w' => e = .returned (.bool true) ∧ Below w.heap.size w w' := by
 obtain ⟨k, h⟩ := P s0 l1 a2 g0 g1 g2
 refine (laws_FnExactKeepsYardRules.calls k _ _ s0.f0 _ _ l1 a2 true w hr0_0 hc0_0 hr1 hc1 h).mono ?_
 rintro e w' ⟨rfl, hd⟩
 exact ⟨rfl, hd⟩

end Go.Proofs.Ytmpmcckjpkijnaa.P
