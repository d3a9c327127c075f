-- Written by a program of this session over the translation (a variant of the printer, see wip/gen); Lean checks it.
import Derived.Test.YtipahijdcgoemaaPx0
import Derived.Test.YtipahijdcgoemaaPx9
import Derived.Test.YtipahijdcgoemaaPx10
import Derived.Test.YtipahijdcgoemaaPx15
import Derived.Test.YtipahijdcgoemaaU
import Derived.Test.YtipahijdcgoemaaDrw
namespace Go.Proofs.Ytipahijdcgoemaa.P
open Go.RowKit Go.Proofs.YtipahijdcgoemaaW.PrintWords Go.Proofs.YtipahijdcgoemaaW.PrintLast Go.Proofs.YtipahijdcgoemaaW.PrintMore
attribute [local go_sem] Go.Proofs.Ytipahijdcgoemaa.V.isSome_setCell max2_int min2_int max_two min_two max_three min_three max_four min_four   -- for this text's walks alone
set_option linter.unusedVariables false
set_option linter.unusedSimpArgs false

/-! ### spec_DrawPlanBay: function 38 -/
def spec_DrawPlanBay.f (k : Nat) (l0 : List Int) : Option (Int × Int × (List Int) × (List Int)) :=
  (spec_l1Cur_stowage.f l0 0 0).bind fun b => (spec_l1Cur_plan.f k l0 b.2.2.2.1 b.2.2.2.2 b.1 b.2.1 b.2.2.1).bind fun p => some (b.1, b.2.1, b.2.2.1, p.1)
theorem spec_DrawPlanBay.mono : ∀ a0 k, LeO (spec_DrawPlanBay.f k a0) (spec_DrawPlanBay.f (k + 1) a0) := by
  intro a0 k
  unfold spec_DrawPlanBay.f
  exact LeO.bind (LeO.refl _) (fun _ => LeO.bind (spec_l1Cur_plan.mono _ _ _ _ _ _ k) (fun _ => LeO.refl _))
theorem StoW.rowKeep {w0 w W W1 : World} {g gs gr : Nat} {c : List Int} {i s : Int} {cs : Array Value} {v : Value} {ps : List Int} {ok : Nat → Prop} (h : StoW w0 w W g gs gr c i s cs) (ho : Kd.R (Kd.int .i64) 3 W w.heap.size ok v ps) (hk : KeepBut W W1 g none) : Kd.R (Kd.int .i64) 3 W1 w.heap.size ok v ps :=
  Kd.R_mono (Kd.R_keep (h.1.apart ho (by decide)) hk (fun _ h => h.2)) (fun _ h => h.1)
/-- An elder row is apart from what a call made. -/
theorem StoW.rowElder {w0 w W W1 : World} {g gs gr : Nat} {c : List Int} {i s : Int} {cs : Array Value} {v u : Value} {ps ys : List Int} (h : StoW w0 w W g gs gr c i s cs) (ho : Kd.R (Kd.int .i64) 3 W w.heap.size (fun _ => True) v ps) (hk : KeepBut W W1 g none) (hu : Kd.R (Kd.int .i64) 3 W1 W.heap.size (fun _ => True) u ys) : Kd.R (Kd.int .i64) 3 W1 w.heap.size (fun k_ => some k_ ≠ u.ownBlock) v ps := by
  refine Kd.R_mono (h.rowKeep (Kd.R_bound ho) hk) (fun k hq he => ?_)
  rcases Kd.R_base2 hu with h0 | ⟨b, hb, hle⟩
  · rw [h0] at he; cases he
  · rw [hb] at he
    have h1 : k = b := Option.some.inj he
    have h2 := hq.2.2.1
    omega
theorem StoW.rowFin {w0 w W : World} {g gs gr : Nat} {c : List Int} {i s : Int} {cs : Array Value} {u : Value} {ys : List Int} {ok : Nat → Prop} (h : StoW w0 w W g gs gr c i s cs) (ho : Kd.R (Kd.int .i64) 3 W w.heap.size ok u ys) (a b v : Value) : Kd.R (Kd.int .i64) 3 (((W.setCell ⟨gr, 0, none⟩ a).setCell ⟨gr, 1, none⟩ b).setCell ⟨gr, 2, none⟩ v) w.heap.size ok u ys := by
  have h5 := h.2.2.2.2.1
  have b1 := blk_put h5 0 a rfl
  have b2 := blk_put b1 1 b rfl
  have f : ∀ {W : World} {cs : Array Value} (j : Nat) (x : Value), W.heap[gr]? = some (.cells cs 26 (0, 0)) → Kd.R (Kd.int .i64) 3 W w.heap.size ok u ys → Kd.R (Kd.int .i64) 3 (W.setCell ⟨gr, j, none⟩ x) w.heap.size ok u ys := fun j x hb ho => Kd.R_mono (Kd.R_far (p := ⟨gr, j, none⟩) (Kd.R_types ho hb (by decide)) (fun _ h => h.2) x) (fun _ h => h.1)
  exact f 2 v b2 (f 1 b b1 (f 0 a h5 ho))
theorem StoW.gsFin {w0 w W : World} {g gs gr : Nat} {c : List Int} {i s : Int} {cs : Array Value} (h : StoW w0 w W g gs gr c i s cs) (a b v : Value) : (((W.setCell ⟨gr, 0, none⟩ a).setCell ⟨gr, 1, none⟩ b).setCell ⟨gr, 2, none⟩ v).heap[gs]? = some (.cells cs 26 (0, 0)) :=
  blk_far (p := ⟨gr, 2, none⟩) (blk_far (p := ⟨gr, 1, none⟩) (blk_far (p := ⟨gr, 0, none⟩) h.2.2.2.1 h.2.2.2.2.2.2.2.2 a) h.2.2.2.2.2.2.2.2 b) h.2.2.2.2.2.2.2.2 v
def spec_DrawPlanBay.T3 : Bool × List (List Nat × List Nat) := (true, [([], []), ([], []), ([], []), ([1, 2], [1, 2]), ([0, 3, 0], [0]), ([3, 4, 0, 1, 2, 3, 4], [3])])
def spec_DrawPlanBay.B3 : List Nat := [0, 0, 0, 6, 15, 31]
theorem spec_DrawPlanBay.tab3 : rtab .any (opsOf Try.f38 3) = spec_DrawPlanBay.T3 := by kernel_rfl
theorem spec_DrawPlanBay.bits3 : waitsOk spec_DrawPlanBay.T3.2 spec_DrawPlanBay.B3 = true := by kernel_rfl
set_option maxHeartbeats 8000000 in
set_option maxRecDepth 100000 in
theorem spec_DrawPlanBay.calls (k : Nat) (A0 : Option Addr) (c0 : Nat) (l0 : List Int) (r1 : Int) (r2 : Int) (r3 : List Int) (r4 : List Int) (w : World) (hr0 : Kd.C (Kd.int .u8) w A0 l0.length l0) (hc0 : l0.length ≤ c0) (h : spec_DrawPlanBay.f k l0 = some (r1, r2, r3, r4)) :
    Calls Try.prog 38 #[.slice A0 l0.length c0] w fun e w' => ∃ v0_ : Value, ∃ v1_ : Value, e = .returned (.tuple #[.agg #[.int .i64 r1, .int .i64 r2, v0_], v1_]) ∧ Kd.R (Kd.int .i64) 3 w' w.heap.size (fun k_ => some k_ ≠ (v1_ : Value).ownBlock) v0_ r3 ∧ Kd.R (Kd.int .i64) 3 w' w.heap.size (fun k_ => some k_ ≠ (v0_ : Value).ownBlock) v1_ r4 ∧ Below w.heap.size w w' := by
  have hu := Try.underlying26
  have HR0 := Aside0.mk hr0
  have HC0 := Aside0.mk hc0
  have HB := Aside0.mk (Below.refl w.heap.size w)
  clear hr0 hc0
  unfold spec_DrawPlanBay.f at h
  obtain ⟨⟨R, H, ps, i1, s1⟩, hA1, h⟩ := Option.bind_eq_some_iff.1 h
  obtain ⟨⟨pl, i2, s2⟩, hA2, h⟩ := Option.bind_eq_some_iff.1 h
  dsimp only at hA2 h
  have A1 := Aside0.mk hA1
  have A2 := Aside0.mk hA2
  clear hA1 hA2
  simp only [Option.some.injEq, Prod.mk.injEq] at h
  obtain ⟨rfl, rfl, rfl, rfl⟩ := h
  go_enter Try.func38, Try.ntmps38
  go_upto_region 3 with (first | ((with_reducible refine gate_dst (N := 2) rfl ?_); (try (refine gate_guard (by rfl) ?_; dsimp only)); refine box_event ?hg (N := 2) ?hd (cs := #[.int .i64 0, .int .i64 0, .slice none 0 0]) (t := 26) ?hr ?_; (case hd => rfl); (case hg => rfl); (case hr => first | (go_simp; done) | (go_simp; rfl)); intro gr hgr w1 hbox hb; have HB1 := Aside0.mk (below_step HB.out hb); have BR1 := Aside0.mk hbox; have GR := Aside0.mk (show w.heap.size ≤ gr by rw [hgr]; exact Nat.le_refl _); clear hb hbox hgr) | ((with_reducible refine gate_dst (N := 8) rfl ?_); refine box_event ?hg (N := 8) ?hd (cs := #[.slice A0 l0.length c0, .int .i64 0, .int .u64 0]) (t := 52) ?hr ?_; (case hd => rfl); (case hg => rfl); (case hr => first | (go_simp; done) | (go_simp; rfl)); intro gc hg w2 hbox hb; have HI2 := Aside0.mk (show IsS52 w w2 gc l0 0 0 from ⟨A0, c0, hbox, by rw [hg]; exact HB1.out.size, HR0.out⟩); have BR2 := Aside0.mk (blk_below BR1.out hb); have HB2 := Aside0.mk (below_step HB1.out hb); clear hg hbox hb) | ((with_reducible refine gate_callee (f := 23) rfl ?_); refine goesL_ (some 10) rfl rfl Try.func23 (by kernel_rfl) rfl #[.pointer (some ⟨gc, 0, none⟩)] rfl gmp ?_; refine (spec_l1Cur_stowage.calls gc l0 0 0 R H ps i1 s1 w _ HI2.out HB2.out A1.out).mono ?_; rintro e w3 ⟨v, rfl, ho, hi, hb, hk⟩; refine ⟨_, rfl, ?_⟩; obtain ⟨Av, cv, rfl⟩ := Kd.R_slice ho; have HI3 := Aside0.mk hi; have HB3 := Aside0.mk hb; have HO3 := Aside0.mk (Kd.R_lower ho (below_size HB2.out)); have BR3 := Aside0.mk (KeepBut.blk hk BR2.out (Ne.symm (IsS52.ne_blk HI2.out BR2.out (by decide))) (by simp)); clear ho hi hb hk))
  have HS := Aside0.mk (show StoW w w (w3.alloc (.cells #[.int .i64 R, .int .i64 H, .slice Av ps.length cv] 26)) gc w3.heap.size gr l0 i1 s1 #[.int .i64 R, .int .i64 H, .slice Av ps.length cv] from ⟨IsS52.alloc HI3.out _, below_alloc HB3.out _, KeepBut.of_below (below_alloc HB3.out _) gc none, blk_new w3 (.cells #[.int .i64 R, .int .i64 H, .slice Av ps.length cv] 26 (0, 0)), blk_alloc BR3.out _, below_size HB3.out, GR.out, Nat.le_refl _, by have := blk_lt BR3.out; omega⟩)
  have HO := Aside0.mk (Kd.R_alloc HO3.out (.cells #[.int .i64 R, .int .i64 H, .slice Av ps.length cv] 26))
  clear HB HB1 BR1 HI2 BR2 HB2 HI3 HB3 HO3 BR3 A1 GR
  generalize w3.alloc (.cells #[.int .i64 R, .int .i64 H, .slice Av ps.length cv] 26) = w4 at HS HO ⊢
  generalize w3.heap.size = gs at HS ⊢
  have HS0 := Aside0.mk (StoW.drew HS.out)
  have HO0 := Aside0.mk (Kd.R_drew HO.out)
  clear HS HO
  refine start_ (n := 6) (S := fun w' => w'.cell? ⟨gs, 0, none⟩ = some (.int .i64 R) ∧ w'.cell? ⟨gs, 1, none⟩ = some (.int .i64 H) ∧ w'.cell? ⟨gs, 2, none⟩ = some (.slice Av ps.length cv)) (ds := []) #[false, false, false, false, false, false] (by kernel_rfl) rfl rfl ⟨(blk_cell (HS0.out.2.2.2.1) 0).trans rfl, (blk_cell (HS0.out.2.2.2.1) 1).trans rfl, (blk_cell (HS0.out.2.2.2.1) 2).trans rfl⟩ (fun hHeld => ?_)
  refine with_tabW spec_DrawPlanBay.tab3 spec_DrawPlanBay.bits3 (fun HT_ HW_ => ?_)
  generalize w4.drew = W0 at HS0 HO0 hHeld ⊢
  refine pure_ (i := 1) (N := some 12) (v := ?_) (a' := ?_) #[false, true, false, false, false, false] rfl rfl (any_of HT_.out (by kernel_rfl)) (fun _ _ _ h => h) (Or.inl ⟨by rfl, ?_⟩) ?_ ?_
  rotate_left
  · intro w'
    go_simp
    with_reducible rfl
  rotate_left
  · simp only [Act.put, List.setIfInBounds_toArray, List.set_cons_zero, List.set_cons_succ, i64_w, i32_w]
    rfl
  refine take_ (i := 0) (N := some 11) (v := ?_) (a' := ?_) #[true, true, false, false, false, false] rfl rfl (take_ofW HT_.out HW_.out (by kernel_rfl)) (fun _ _ _ h => h) (Or.inl ⟨by rfl, ?_⟩) hHeld ?_ ?_
  rotate_left
  · rintro w' ⟨s0, s1, s2⟩
    go_simp
    with_reducible rfl
  rotate_left
  · simp only [Act.put, List.setIfInBounds_toArray, List.set_cons_zero, List.set_cons_succ, i64_w, i32_w]
    rfl
  refine take_ (i := 2) (N := some 13) (v := ?_) (a' := ?_) #[true, true, true, false, false, false] rfl rfl (take_ofW HT_.out HW_.out (by kernel_rfl)) (fun _ _ _ h => h) (Or.inl ⟨by rfl, ?_⟩) hHeld ?_ ?_
  rotate_left
  · rintro w' ⟨s0, s1, s2⟩
    go_simp
    with_reducible rfl
  rotate_left
  · simp only [Act.put, List.setIfInBounds_toArray, List.set_cons_zero, List.set_cons_succ, i64_w, i32_w]
    rfl
  refine one_ (i := 3) (N := some 14) #[true, true, true, true, false, false] rfl rfl (one_of HT_.out (by kernel_rfl)) (by decide) (fun K hK => ?_)
  refine goes_ Try.func24 (by kernel_rfl) rfl #[.pointer (some ⟨gc, 0, none⟩), .agg #[.int .i64 R, .int .i64 H, .slice Av ps.length cv]] (by rfl) rfl rfl gmp ?_
  refine (spec_l1Cur_plan.calls k gc l0 i1 s1 R H Av cv ps pl i2 s2 w _ HS0.out.1 HS0.out.2.1 (Kd.R_reads' HO0.out).2.2 (Kd.R_reads' HO0.out).2.1 (fun ad e _ hb => IsS52.own_ne HS0.out.1 HO0.out (by decide) (by rw [e, ← hb]; rfl)) A2.out).mono ?_
  rintro e W3 ⟨v15, rfl, ho, hi, hb, hk⟩
  refine ⟨_, rfl, ?_⟩
  obtain ⟨A15, c15, rfl⟩ := Kd.R_slice ho
  have HS3 := Aside0.mk (StoW.pick HS0.out hi hb hk)
  have HO3 := Aside0.mk (StoW.rowElder HS0.out HO0.out hk ho)
  have HP3 := Aside0.mk (Kd.R_mono (Kd.R_lower (Kd.R_new' ho (Kd.R_lt HO0.out)) HS0.out.2.2.1.1) (fun _ h => h.2))
  have d0_ : W3.cell? ⟨gr, 0, none⟩ = some (.int .i64 0) := (blk_cell HS3.out.2.2.2.2.1 0).trans rfl
  have d1_ : W3.cell? ⟨gr, 1, none⟩ = some (.int .i64 0) := (blk_cell HS3.out.2.2.2.2.1 1).trans rfl
  have d2_ : W3.cell? ⟨gr, 2, none⟩ = some (.slice none 0 0) := (blk_cell HS3.out.2.2.2.2.1 2).trans rfl
  have f0_ := blk_frozen HS3.out.2.2.2.2.1 0
  have f1_ := blk_frozen HS3.out.2.2.2.2.1 1
  have f2_ := blk_frozen HS3.out.2.2.2.2.1 2
  clear hi hb hk ho HS0 HO0
  refine hK.out _ _ ⟨(blk_cell (HS3.out.2.2.2.1) 0).trans rfl, (blk_cell (HS3.out.2.2.2.1) 1).trans rfl, (blk_cell (HS3.out.2.2.2.1) 2).trans rfl⟩ (fun hHeld => ?_)
  clear hK K
  refine norm_ (a' := ?_) ?_ ?_
  rotate_left
  · show Act.put _ (some 14) _ = _
    simp only [Act.put, List.setIfInBounds_toArray, List.set_cons_zero, List.set_cons_succ, i64_w, i32_w]
    rfl
  refine one_ (i := 4) (N := none) #[true, true, true, true, true, false] rfl rfl (one_of HT_.out (by kernel_rfl)) (by decide) (fun K hK => ?_)
  refine skip_ (w1 := ?_) (by rfl) rfl ?_ ?_
  rotate_left
  · go_simp
    rfl
  refine hK.out _ _ ⟨(blk_cell (StoW.gsFin HS3.out (.int .i64 R) (.int .i64 H) (.slice Av ps.length cv)) 0).trans rfl, (blk_cell (StoW.gsFin HS3.out (.int .i64 R) (.int .i64 H) (.slice Av ps.length cv)) 1).trans rfl, (blk_cell (StoW.gsFin HS3.out (.int .i64 R) (.int .i64 H) (.slice Av ps.length cv)) 2).trans rfl⟩ (fun hHeld => ?_)
  clear hK K
  clear d0_ d1_ d2_ f0_ f1_ f2_
  refine pure_ (i := 5) (N := some 3) (v := ?_) (a' := ?_) #[true, true, true, true, true, true] rfl rfl (any_of HT_.out (by kernel_rfl)) (fun _ _ _ h => h) (Or.inl ⟨by rfl, ?_⟩) ?_ ?_
  rotate_left
  · intro w'
    go_simp
    with_reducible rfl
  rotate_left
  · simp only [Act.put, List.setIfInBounds_toArray, List.set_cons_zero, List.set_cons_succ, i64_w, i32_w]
    rfl
  refine done_ (done_of HT_.out (by kernel_rfl)) ?_
  clear hHeld HT_ HW_
  have HF := StoW.fin HS3.out (Kd.R_mono HO3.out (fun _ _ => trivial)) (.int .i64 R) (.int .i64 H)
  have HO4 := StoW.rowFin HS3.out HO3.out (.int .i64 R) (.int .i64 H) (.slice Av ps.length cv)
  have HP4 := StoW.rowFin HS3.out HP3.out (.int .i64 R) (.int .i64 H) (.slice Av ps.length cv)
  generalize ((W3.setCell ⟨gr, 0, none⟩ (.int .i64 R)).setCell ⟨gr, 1, none⟩ (.int .i64 H)).setCell ⟨gr, 2, none⟩ (.slice Av ps.length cv) = W4 at HF HO4 HP4 ⊢
  go_wp2
  refine bodyPost_ret (results_ct rfl _ _ gr 26 #[.int .i64 R, .int .i64 H, .slice Av ps.length cv] (0, 0) _ rfl (by exact HF.1) Try.underlying26 rfl (by kernel_rfl)) rfl ?_
  exact ⟨_, _, rfl, HO4, HP4, HF.2.2.2.1⟩


end Go.Proofs.Ytipahijdcgoemaa.P
