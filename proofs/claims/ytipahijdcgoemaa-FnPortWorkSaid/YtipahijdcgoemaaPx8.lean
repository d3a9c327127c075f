-- Written by a program of this session over the translation (a variant of the printer, see wip/gen); Lean checks it.
import Derived.Test.YtipahijdcgoemaaPx0
import Derived.Test.YtipahijdcgoemaaPx1
import Derived.Test.YtipahijdcgoemaaPx2
import Derived.Test.YtipahijdcgoemaaPx7
import Derived.Test.YtipahijdcgoemaaU
import Derived.Test.YtipahijdcgoemaaDrw
namespace Go.Proofs.Ytipahijdcgoemaa.P
open Go.RowKit Go.Proofs.YtipahijdcgoemaaW.PrintWords Go.Proofs.YtipahijdcgoemaaW.PrintLast Go.Proofs.YtipahijdcgoemaaW.PrintMore
attribute [local go_sem] Go.Proofs.Ytipahijdcgoemaa.V.isSome_setCell max2_int min2_int max_two min_two max_three min_three max_four min_four
set_option linter.unusedVariables false
set_option linter.unusedSimpArgs false
/-! ### spec_DrawPortWork: function 6 -/
def spec_DrawPortWork.f (k : Nat) (l0 : List Int) : Option (Int × Int × (List Int) × (List Int) × Int) :=
  (spec_l1Cur_stowage.f l0 0 0).bind fun b => (spec_l1Cur_plan.f k l0 b.2.2.2.1 b.2.2.2.2 b.1 b.2.1 b.2.2.1).bind fun p => (spec_l1Cur_among.f l0 p.2.1 p.2.2 [1, 2, 3, 4, 9, 0, 10]).bind fun q => some (b.1, b.2.1, b.2.2.1, p.1, q.1)
theorem spec_DrawPortWork.mono : ∀ a0 k, LeO (spec_DrawPortWork.f k a0) (spec_DrawPortWork.f (k + 1) a0) := by
 intro a0 k
 unfold spec_DrawPortWork.f
 repeat' first
   | (with_reducible apply spec_l1Cur_plan.mono)
   | (with_reducible exact LeO.refl _)
   | (with_reducible exact LeO.none _)
   | (with_reducible refine LeO.ite ?_ ?_)
   | (with_reducible refine LeO.bind ?_ (fun _ => ?_))
   | exact LeO.refl _
   | exact LeO.none _
   | refine LeO.ite ?_ ?_
   | refine LeO.bind ?_ (fun _ => ?_)
theorem StoW.rowKeep {w0 w W W1 : World} {g gs gr : Nat} {c : List Int} {i s : Int} {cs : Array Value} {v : Value} {ps : List Int} {ok : Nat → Prop} (h : StoW w0 w W g gs gr c i s cs) (ho : Kd.R (Kd.int .i64) 3 W w.heap.size ok v ps) (hk : KeepBut W W1 g none) : Kd.R (Kd.int .i64) 3 W1 w.heap.size ok v ps :=
  Kd.R_mono (Kd.R_keep (h.1.apart ho (by decide)) hk (fun _ h => h.2)) (fun _ h => h.1)
/-- An elder row is apart from what a call made. -/
theorem StoW.rowElder {w0 w W W1 : World} {g gs gr : Nat} {c : List Int} {i s : Int} {cs : Array Value} {v u : Value} {ps ys : List Int} (h : StoW w0 w W g gs gr c i s cs) (ho : Kd.R (Kd.int .i64) 3 W w.heap.size (fun _ => True) v ps) (hk : KeepBut W W1 g none) (hu : Kd.R (Kd.int .i64) 3 W1 W.heap.size (fun _ => True) u ys) : Kd.R (Kd.int .i64) 3 W1 w.heap.size (fun k_ => some k_ ≠ u.ownBlock) v ps := by
 refine Kd.R_mono (h.rowKeep (Kd.R_bound ho) hk) (fun k hq he => ?_)
 rcases Kd.R_base2 hu with h0 | ⟨b, hb, hle⟩
 ·rw [h0] at he; cases he
 rw [hb] at he
 have h1 : k = b := Option.some.inj he
 have h2 := hq.2.2.1
 omega
theorem StoW.rowFin {w0 w W : World} {g gs gr : Nat} {c : List Int} {i s : Int} {cs : Array Value} {u : Value} {ys : List Int} {ok : Nat → Prop} (h : StoW w0 w W g gs gr c i s cs) (ho : Kd.R (Kd.int .i64) 3 W w.heap.size ok u ys) (a b v : Value) : Kd.R (Kd.int .i64) 3 (((W.setCell ⟨gr, 0, none⟩ a).setCell ⟨gr, 1, none⟩ b).setCell ⟨gr, 2, none⟩ v) w.heap.size ok u ys := by
 have h5 := h.2.2.2.2.1
 have b1 := blk_put h5 0 a rfl
 have b2 := blk_put b1 1 b rfl
 have f : ∀ {W : World} {cs : Array Value} (j : Nat) (x : Value), W.heap[gr]? = some (.cells cs 26 (0, 0)) → Kd.R (Kd.int .i64) 3 W w.heap.size ok u ys → Kd.R (Kd.int .i64) 3 (W.setCell ⟨gr, j, none⟩ x) w.heap.size ok u ys := fun j x hb ho => Kd.R_mono (Kd.R_far (p := ⟨gr, j, none⟩) (Kd.R_types ho hb (by decide)) (fun _ h => h.2) x) (fun _ h => h.1)
 exact f 2 v b2 (f 1 b b1 (f 0 a h5 ho))
theorem StoW.gsFin {w0 w W : World} {g gs gr : Nat} {c : List Int} {i s : Int} {cs : Array Value} (h : StoW w0 w W g gs gr c i s cs) (a b v : Value) : (((W.setCell ⟨gr, 0, none⟩ a).setCell ⟨gr, 1, none⟩ b).setCell ⟨gr, 2, none⟩ v).heap[gs]? = some (.cells cs 26 (0, 0)) :=
  blk_far (p := ⟨gr, 2, none⟩) (blk_far (p := ⟨gr, 1, none⟩) (blk_far (p := ⟨gr, 0, none⟩) h.2.2.2.1 h.2.2.2.2.2.2.2.2 a) h.2.2.2.2.2.2.2.2 b) h.2.2.2.2.2.2.2.2 v
def spec_DrawPortWork.T3 : Bool × List (List Nat × List Nat) := (true, [([], []), ([], []), ([], []), ([1, 2], [1, 2]), ([], []), ([], []), ([4, 5, 3], [4, 5]), ([0, 6, 0], [0]), ([3, 7, 0, 1, 2, 3, 7], [3]), ([6, 8, 0, 1, 2, 3, 4, 5, 6, 7, 8], [6])])
def spec_DrawPortWork.B3 : List Nat := [0, 0, 0, 6, 0, 0, 62, 127, 255, 511]
theorem spec_DrawPortWork.tab3 : rtab .any (opsOf Try.f6 3) = spec_DrawPortWork.T3 := by kernel_rfl
theorem spec_DrawPortWork.bits3 : waitsOk spec_DrawPortWork.T3.2 spec_DrawPortWork.B3 = true := by kernel_rfl
set_option maxHeartbeats 8000000 in
set_option maxRecDepth 100000 in
theorem spec_DrawPortWork.calls (k : Nat) (A0 : Option Addr) (c0 : Nat) (l0 : List Int) (r1 : Int) (r2 : Int) (r3 : List Int) (r4 : List Int) (r5 : Int) (w : World) (hr0 : Kd.C (Kd.int .u8) w A0 l0.length l0) (hc0 : l0.length ≤ c0) (h : spec_DrawPortWork.f k l0 = some (r1, r2, r3, r4, r5)) :
    Calls Try.prog 6 #[.slice A0 l0.length c0] w fun e w' => ∃ v0_ : Value, ∃ v1_ : Value, e = .returned (.tuple #[.agg #[.int .i64 r1, .int .i64 r2, v0_], v1_, .int .i64 r5]) ∧ Kd.R (Kd.int .i64) 3 w' w.heap.size (fun k_ => some k_ ≠ (v1_ : Value).ownBlock) v0_ r3 ∧ Kd.R (Kd.int .i64) 3 w' w.heap.size (fun k_ => some k_ ≠ (v0_ : Value).ownBlock) v1_ r4 ∧ Below w.heap.size w w' := by
 have hu := Try.underlying26
 have HR0 := Aside0.mk hr0
 have HC0 := Aside0.mk hc0
 have HB := Aside0.mk (Below.refl w.heap.size w)
 clear hr0 hc0
 unfold spec_DrawPortWork.f at h
 obtain ⟨⟨R, H, ps, i1, s1⟩, hA1, h⟩ := Option.bind_eq_some_iff.1 h
 obtain ⟨⟨pl, i2, s2⟩, hA2, h⟩ := Option.bind_eq_some_iff.1 h
 obtain ⟨⟨x, i3, s3⟩, hA3, h⟩ := Option.bind_eq_some_iff.1 h
 dsimp only at hA2 hA3 h
 have A1 := Aside0.mk hA1
 have A2 := Aside0.mk hA2
 have A3 := Aside0.mk hA3
 clear hA1 hA2 hA3
 simp only [Option.some.injEq, Prod.mk.injEq] at h
 obtain ⟨rfl, rfl, rfl, rfl, rfl⟩ := h
 go_enter Try.func6, Try.ntmps6
 go_upto_region 3 with (first | ((with_reducible refine gate_dst (N := 2) rfl ?_); (try (refine gate_guard (by rfl) ?_; dsimp only)); refine box_event ?hg (N := 2) ?hd (cs := #[.int .i64 0, .int .i64 0, .slice none 0 0]) (t := 26) ?hr ?_; (case hd => rfl); (case hg => rfl); (case hr => first | (go_simp; done) | (go_simp; rfl)); intro gr hgr w1 hbox hb; have HB1 := Aside0.mk (below_step HB.out hb); have BR1 := Aside0.mk hbox; have GR := Aside0.mk (show w.heap.size ≤ gr by rw [hgr]; exact Nat.le_refl _); clear hb hbox hgr) | ((with_reducible refine gate_dst (N := 9) rfl ?_); refine box_event ?hg (N := 9) ?hd (cs := #[.slice A0 l0.length c0, .int .i64 0, .int .u64 0]) (t := 52) ?hr ?_; (case hd => rfl); (case hg => rfl); (case hr => first | (go_simp; done) | (go_simp; rfl)); intro gc hg w2 hbox hb; have HI2 := Aside0.mk (show IsS52 w w2 gc l0 0 0 from ⟨A0, c0, hbox, by rw [hg]; exact HB1.out.size, HR0.out⟩); have BR2 := Aside0.mk (blk_below BR1.out hb); have HB2 := Aside0.mk (below_step HB1.out hb); clear hg hbox hb) | ((with_reducible refine gate_callee (f := 23) rfl ?_); refine goesL_ (some 11) rfl rfl Try.func23 (by kernel_rfl) rfl #[.pointer (some ⟨gc, 0, none⟩)] rfl gmp ?_; refine (spec_l1Cur_stowage.calls gc l0 0 0 R H ps i1 s1 w _ HI2.out HB2.out A1.out).mono ?_; rintro e w3 ⟨v, rfl, ho, hi, hb, hk⟩; refine ⟨_, rfl, ?_⟩; obtain ⟨Av, cv, rfl⟩ := Kd.R_slice ho; have HI3 := Aside0.mk hi; have HB3 := Aside0.mk hb; have HO3 := Aside0.mk (Kd.R_lower ho (below_size HB2.out)); have BR3 := Aside0.mk (KeepBut.blk hk BR2.out (Ne.symm (IsS52.ne_blk HI2.out BR2.out (by decide))) (by simp)); clear ho hi hb hk))
 have HS := Aside0.mk (show StoW w w (w3.alloc (.cells #[.int .i64 R, .int .i64 H, .slice Av ps.length cv] 26)) gc w3.heap.size gr l0 i1 s1 #[.int .i64 R, .int .i64 H, .slice Av ps.length cv] from ⟨IsS52.alloc HI3.out _, below_alloc HB3.out _, KeepBut.of_below (below_alloc HB3.out _) gc none, blk_new w3 (.cells #[.int .i64 R, .int .i64 H, .slice Av ps.length cv] 26 (0, 0)), blk_alloc BR3.out _, below_size HB3.out, GR.out, Nat.le_refl _, by have := blk_lt BR3.out; omega⟩)
 have HO := Aside0.mk (Kd.R_alloc HO3.out (.cells #[.int .i64 R, .int .i64 H, .slice Av ps.length cv] 26))
 clear HB HB1 BR1 HI2 BR2 HB2 HI3 HB3 HO3 BR3 A1 GR
 generalize w3.alloc (.cells #[.int .i64 R, .int .i64 H, .slice Av ps.length cv] 26) = w4 at HS HO ⊢
 generalize w3.heap.size = gs at HS ⊢
 have HS0 := Aside0.mk (StoW.drew HS.out)
 have HO0 := Aside0.mk (Kd.R_drew HO.out)
 clear HS HO
 refine start_ (n := 10) (S := fun w' => w'.cell? ⟨gs, 0, none⟩ = some (.int .i64 R) ∧ w'.cell? ⟨gs, 1, none⟩ = some (.int .i64 H) ∧ w'.cell? ⟨gs, 2, none⟩ = some (.slice Av ps.length cv)) (ds := []) #[false, false, false, false, false, false, false, false, false, false] (by kernel_rfl) rfl rfl ⟨(blk_cell (HS0.out.2.2.2.1) 0).trans rfl, (blk_cell (HS0.out.2.2.2.1) 1).trans rfl, (blk_cell (HS0.out.2.2.2.1) 2).trans rfl⟩ (fun hHeld => ?_)
 refine with_tabW spec_DrawPortWork.tab3 spec_DrawPortWork.bits3 (fun HT_ HW_ => ?_)
 generalize w4.drew = W0 at HS0 HO0 hHeld ⊢
 refine pure_ (i := 1) (N := some 13) (v := ?_) (a' := ?_) #[false, true, false, false, false, false, false, false, false, false] rfl rfl (any_of HT_.out (by kernel_rfl)) (fun _ _ _ h => h) (Or.inl ⟨by rfl, ?_⟩) ?_ ?_
 rotate_left
 ·intro w'
  go_simp
  with_reducible rfl
 rotate_left
 ·simp only [putS]
  rfl
 refine pure_ (i := 4) (N := some 16) (v := ?_) (a' := ?_) #[false, true, false, false, true, false, false, false, false, false] rfl rfl (any_of HT_.out (by kernel_rfl)) (fun _ _ _ h => h) (Or.inl ⟨by rfl, ?_⟩) ?_ ?_
 rotate_left
 ·intro w'
  go_simp
  with_reducible rfl
 rotate_left
 ·simp only [putS]
  rfl
 refine take_ (i := 0) (N := some 12) (v := ?_) (a' := ?_) #[true, true, false, false, true, false, false, false, false, false] rfl rfl (take_ofW HT_.out HW_.out (by kernel_rfl)) (fun _ _ _ h => h) (Or.inl ⟨by rfl, ?_⟩) hHeld ?_ ?_
 rotate_left
 ·rintro w' ⟨s0, s1, s2⟩
  go_simp
  with_reducible rfl
 rotate_left
 ·simp only [putS]
  rfl
 refine take_ (i := 2) (N := some 14) (v := ?_) (a' := ?_) #[true, true, true, false, true, false, false, false, false, false] rfl rfl (take_ofW HT_.out HW_.out (by kernel_rfl)) (fun _ _ _ h => h) (Or.inl ⟨by rfl, ?_⟩) hHeld ?_ ?_
 rotate_left
 ·rintro w' ⟨s0, s1, s2⟩
  go_simp
  with_reducible rfl
 rotate_left
 ·simp only [putS]
  rfl
 refine join_ (σ := Value × Value) 4 #[true, true, true, true, true, true, false, false, false, false] (fun s_ => [(15, s_.1), (17, s_.2)]) (fun s_ w' => StoW w w w' gc gs gr l0 i2 s2 #[.int .i64 R, .int .i64 H, .slice Av ps.length cv] ∧ Kd.R (Kd.int .i64) 3 w' w.heap.size (fun k_ => some k_ ≠ (s_.1 : Value).ownBlock) (.slice Av ps.length cv) ps ∧ Kd.R (Kd.int .i64) 3 w' w.heap.size (fun k_ => some k_ ≠ (.slice Av ps.length cv : Value).ownBlock) s_.1 pl ∧ Kd.R (Kd.int .i64) 3 w' w.heap.size (fun _ => True) s_.2 [1, 2, 3, 4, 9, 0, 10]) ?_ ?_
 rotate_left
 ·intro hCont
  refine two_ (i := 3) (j := 5) (Ni := some 15) (Nj := some 17) #[true, true, true, true, true, false, false, false, false, false] #[true, true, true, false, true, true, false, false, false, false] rfl rfl rfl rfl (two_of HT_.out (by kernel_rfl)) (by decide) (by decide) (fun K hK => ?_) (fun K hK => ?_)
  ·refine goes_ Try.func24 (by kernel_rfl) rfl #[.pointer (some ⟨gc, 0, none⟩), .agg #[.int .i64 R, .int .i64 H, .slice Av ps.length cv]] (by rfl) rfl rfl gmp ?_
   refine (spec_l1Cur_plan.calls k gc l0 i1 s1 R H Av cv ps pl i2 s2 w _ HS0.out.1 HS0.out.2.1 (Kd.R_reads' HO0.out).2.2 (Kd.R_reads' HO0.out).2.1 (fun ad e _ hb => IsS52.own_ne HS0.out.1 HO0.out (by decide) (by rw [e, ← hb]; rfl)) A2.out).mono ?_
   rintro e W1 ⟨v15, rfl, ho, hi, hb, hk⟩
   refine ⟨_, rfl, ?_⟩
   have HS1 := Aside0.mk (StoW.pick HS0.out hi hb hk)
   have HO1 := Aside0.mk (StoW.rowElder HS0.out HO0.out hk ho)
   have HP1 := Aside0.mk (Kd.R_mono (Kd.R_lower (Kd.R_new' ho (Kd.R_lt HO0.out)) HS0.out.2.2.1.1) (fun _ h => h.2))
   clear hi hb hk ho
   refine hK.out _ _ ⟨(blk_cell (HS1.out.2.2.2.1) 0).trans rfl, (blk_cell (HS1.out.2.2.2.1) 1).trans rfl, (blk_cell (HS1.out.2.2.2.1) 2).trans rfl⟩ (fun hHeld => ?_)
   clear hK K
   refine norm_ (a' := ?_) ?_ ?_
   rotate_left
   ·show Act.put _ (some 15) _ = _
    simp only [putS]
    rfl
   refine one_ (i := 5) (N := some 17) #[true, true, true, true, true, true, false, false, false, false] rfl rfl (one_of HT_.out (by kernel_rfl)) (by decide) (fun K hK => ?_)
   refine Kd.R_lit_step (Kd.int .i64) _ 3 ?hg (N := 17) ?hd (xs := ([1, 2, 3, 4, 9, 0, 10] : List Int)) (inner := [.int .i64 1, .int .i64 2, .int .i64 3, .int .i64 4, .int .i64 9, .int .i64 0, .int .i64 10]) (ok := fun _ => True) (okp := fun _ => True) ?hr ?hp (fun _ hk => hk) trivial (Below.refl _ _) (Nat.le_refl _) (by simp) ?_; (case hd => rfl); (case hg => rfl); (case hr => first | (go_simp; done) | (go_simp; rfl)); (case hp => exact (Reps.one (show Kd.M (Kd.int .i64) _ _ _ 1 [.int .i64 1] from rfl) (Reps.one (show Kd.M (Kd.int .i64) _ _ _ 2 [.int .i64 2] from rfl) (Reps.one (show Kd.M (Kd.int .i64) _ _ _ 3 [.int .i64 3] from rfl) (Reps.one (show Kd.M (Kd.int .i64) _ _ _ 4 [.int .i64 4] from rfl) (Reps.one (show Kd.M (Kd.int .i64) _ _ _ 9 [.int .i64 9] from rfl) (Reps.one (show Kd.M (Kd.int .i64) _ _ _ 0 [.int .i64 0] from rfl) (Reps.one (show Kd.M (Kd.int .i64) _ _ _ 10 [.int .i64 10] from rfl) (Reps.none _ _)))))))))
   intro v17 W2 h17 hb hg_ hnew_
   have HS2 := Aside0.mk (StoW.grown HS1.out (hb.mono HS1.out.2.2.1.1) hg_ (by simp) (by simp) (by simp))
   have HO2 := Aside0.mk (Kd.R_below HO1.out hb)
   have HP2 := Aside0.mk (Kd.R_below HP1.out hb)
   have HL2 := Aside0.mk (Kd.R_lower h17 HS1.out.2.2.1.1)
   clear hb hg_ hnew_ h17
   refine hK.out _ _ ⟨(blk_cell (HS2.out.2.2.2.1) 0).trans rfl, (blk_cell (HS2.out.2.2.2.1) 1).trans rfl, (blk_cell (HS2.out.2.2.2.1) 2).trans rfl⟩ (fun hHeld => ?_)
   clear hK K
   refine norm_ (a' := ?_) ?_ ?_
   rotate_left
   ·show Act.put _ (some 17) _ = _
    simp only [putS]
    rfl
   exact norm_ (by simp only [putAll, Act.put, List.setIfInBounds_toArray, List.set_cons_zero, List.set_cons_succ]) (hCont (v15, v17) _ ⟨HS2.out, HO2.out, HP2.out, HL2.out⟩)
  refine Kd.R_lit_step (Kd.int .i64) _ 3 ?hg (N := 17) ?hd (xs := ([1, 2, 3, 4, 9, 0, 10] : List Int)) (inner := [.int .i64 1, .int .i64 2, .int .i64 3, .int .i64 4, .int .i64 9, .int .i64 0, .int .i64 10]) (ok := fun _ => True) (okp := fun _ => True) ?hr ?hp (fun _ hk => hk) trivial (Below.refl _ _) (Nat.le_refl _) (by simp) ?_; (case hd => rfl); (case hg => rfl); (case hr => first | (go_simp; done) | (go_simp; rfl)); (case hp => exact (Reps.one (show Kd.M (Kd.int .i64) _ _ _ 1 [.int .i64 1] from rfl) (Reps.one (show Kd.M (Kd.int .i64) _ _ _ 2 [.int .i64 2] from rfl) (Reps.one (show Kd.M (Kd.int .i64) _ _ _ 3 [.int .i64 3] from rfl) (Reps.one (show Kd.M (Kd.int .i64) _ _ _ 4 [.int .i64 4] from rfl) (Reps.one (show Kd.M (Kd.int .i64) _ _ _ 9 [.int .i64 9] from rfl) (Reps.one (show Kd.M (Kd.int .i64) _ _ _ 0 [.int .i64 0] from rfl) (Reps.one (show Kd.M (Kd.int .i64) _ _ _ 10 [.int .i64 10] from rfl) (Reps.none _ _)))))))))
  intro v17 W1 h17 hb hg_ hnew_
  have HS1 := Aside0.mk (StoW.grown HS0.out (hb.mono HS0.out.2.2.1.1) hg_ (by simp) (by simp) (by simp))
  have HO1 := Aside0.mk (Kd.R_below HO0.out hb)
  have HL1 := Aside0.mk (Kd.R_lower h17 HS0.out.2.2.1.1)
  clear hb hg_ hnew_ h17
  refine hK.out _ _ ⟨(blk_cell (HS1.out.2.2.2.1) 0).trans rfl, (blk_cell (HS1.out.2.2.2.1) 1).trans rfl, (blk_cell (HS1.out.2.2.2.1) 2).trans rfl⟩ (fun hHeld => ?_)
  clear hK K
  refine norm_ (a' := ?_) ?_ ?_
  rotate_left
  ·show Act.put _ (some 17) _ = _
   simp only [putS]
   rfl
  refine one_ (i := 3) (N := some 15) #[true, true, true, true, true, true, false, false, false, false] rfl rfl (one_of HT_.out (by kernel_rfl)) (by decide) (fun K hK => ?_)
  refine goes_ Try.func24 (by kernel_rfl) rfl #[.pointer (some ⟨gc, 0, none⟩), .agg #[.int .i64 R, .int .i64 H, .slice Av ps.length cv]] (by rfl) rfl rfl gmp ?_
  refine (spec_l1Cur_plan.calls k gc l0 i1 s1 R H Av cv ps pl i2 s2 w _ HS1.out.1 HS1.out.2.1 (Kd.R_reads' HO1.out).2.2 (Kd.R_reads' HO1.out).2.1 (fun ad e _ hb => IsS52.own_ne HS1.out.1 HO1.out (by decide) (by rw [e, ← hb]; rfl)) A2.out).mono ?_
  rintro e W2 ⟨v15, rfl, ho, hi, hb, hk⟩
  refine ⟨_, rfl, ?_⟩
  have HS2 := Aside0.mk (StoW.pick HS1.out hi hb hk)
  have HO2 := Aside0.mk (StoW.rowElder HS1.out HO1.out hk ho)
  have HP2 := Aside0.mk (Kd.R_mono (Kd.R_lower (Kd.R_new' ho (Kd.R_lt HO1.out)) HS1.out.2.2.1.1) (fun _ h => h.2))
  have HL2 := Aside0.mk (StoW.rowPick HS1.out HL1.out hk)
  clear hi hb hk ho
  refine hK.out _ _ ⟨(blk_cell (HS2.out.2.2.2.1) 0).trans rfl, (blk_cell (HS2.out.2.2.2.1) 1).trans rfl, (blk_cell (HS2.out.2.2.2.1) 2).trans rfl⟩ (fun hHeld => ?_)
  clear hK K
  refine norm_ (a' := ?_) ?_ ?_
  rotate_left
  ·show Act.put _ (some 15) _ = _
   simp only [putS]
   rfl
  exact norm_ (by simp only [putAll, Act.put, List.setIfInBounds_toArray, List.set_cons_zero, List.set_cons_succ]) (hCont (v15, v17) _ ⟨HS2.out, HO2.out, HP2.out, HL2.out⟩)
 rintro ⟨v15, v17⟩ W2 ⟨hS2, hO2, hP2, hL2⟩
 refine norm_ (a' := ?_) ?_ ?_
 rotate_left
 ·simp only [putAll, Act.put, List.setIfInBounds_toArray, List.set_cons_zero, List.set_cons_succ]
  rfl
 have HS2 := Aside0.mk hS2
 have HO2 := Aside0.mk hO2
 have HP2 := Aside0.mk hP2
 have HL2 := Aside0.mk hL2
 clear hS2 hO2 hP2 hL2 HS0 HO0
 obtain ⟨A8, c8, e8⟩ := Kd.R_slice HL2.out
 subst e8
 refine one_ (i := 6) (N := some 18) #[true, true, true, true, true, true, true, false, false, false] rfl rfl (one_of HT_.out (by kernel_rfl)) (by decide) (fun K hK => ?_)
 refine goes_ Try.func25 (by kernel_rfl) rfl #[.pointer (some ⟨gc, 0, none⟩), .slice A8 ([1, 2, 3, 4, 9, 0, 10] : List Int).length c8] (by rfl) rfl rfl gmp ?_
 refine (spec_l1Cur_among.calls gc l0 i2 s2 A8 c8 [1, 2, 3, 4, 9, 0, 10] x i3 s3 w _ HS2.out.1 HS2.out.2.1 (Kd.R_reads' HL2.out).2.2 (Kd.R_reads' HL2.out).2.1 (fun ad e _ hb => IsS52.own_ne HS2.out.1 HL2.out (by decide) (by rw [e, ← hb]; rfl)) A3.out).mono ?_
 rintro e W3 ⟨rfl, hi, hb, hk⟩
 refine ⟨_, rfl, ?_⟩
 have HS3 := Aside0.mk (StoW.pick HS2.out hi hb hk)
 have HO3 := Aside0.mk (StoW.rowKeep HS2.out HO2.out hk)
 have HP3 := Aside0.mk (StoW.rowKeep HS2.out HP2.out hk)
 have d0_ : W3.cell? ⟨gr, 0, none⟩ = some (.int .i64 0) := (blk_cell HS3.out.2.2.2.2.1 0).trans rfl
 have d1_ : W3.cell? ⟨gr, 1, none⟩ = some (.int .i64 0) := (blk_cell HS3.out.2.2.2.2.1 1).trans rfl
 have d2_ : W3.cell? ⟨gr, 2, none⟩ = some (.slice none 0 0) := (blk_cell HS3.out.2.2.2.2.1 2).trans rfl
 have f0_ := blk_frozen HS3.out.2.2.2.2.1 0
 have f1_ := blk_frozen HS3.out.2.2.2.2.1 1
 have f2_ := blk_frozen HS3.out.2.2.2.2.1 2
 clear hi hb hk HS2 HO2 HP2 HL2
 refine hK.out _ _ ⟨(blk_cell (HS3.out.2.2.2.1) 0).trans rfl, (blk_cell (HS3.out.2.2.2.1) 1).trans rfl, (blk_cell (HS3.out.2.2.2.1) 2).trans rfl⟩ (fun hHeld => ?_)
 clear hK K
 refine norm_ (a' := ?_) ?_ ?_
 rotate_left
 ·show Act.put _ (some 18) _ = _
  simp only [putS]
  rfl
 refine one_ (i := 7) (N := none) #[true, true, true, true, true, true, true, true, false, false] rfl rfl (one_of HT_.out (by kernel_rfl)) (by decide) (fun K hK => ?_)
 refine skip_ (w1 := ?_) (by rfl) rfl ?_ ?_
 rotate_left
 ·go_simp
  rfl
 refine hK.out _ _ ⟨(blk_cell (StoW.gsFin HS3.out (.int .i64 R) (.int .i64 H) (.slice Av ps.length cv)) 0).trans rfl, (blk_cell (StoW.gsFin HS3.out (.int .i64 R) (.int .i64 H) (.slice Av ps.length cv)) 1).trans rfl, (blk_cell (StoW.gsFin HS3.out (.int .i64 R) (.int .i64 H) (.slice Av ps.length cv)) 2).trans rfl⟩ (fun hHeld => ?_)
 clear hK K d0_ d1_ d2_ f0_ f1_ f2_
 refine pure_ (i := 8) (N := some 3) (v := ?_) (a' := ?_) #[true, true, true, true, true, true, true, true, true, false] rfl rfl (any_of HT_.out (by kernel_rfl)) (fun _ _ _ h => h) (Or.inl ⟨by rfl, ?_⟩) ?_ ?_
 rotate_left
 ·intro w'
  go_simp
  with_reducible rfl
 rotate_left
 ·simp only [putS]
  rfl
 refine pure_ (i := 9) (N := some 4) (v := ?_) (a' := ?_) #[true, true, true, true, true, true, true, true, true, true] rfl rfl (any_of HT_.out (by kernel_rfl)) (fun _ _ _ h => h) (Or.inl ⟨by rfl, ?_⟩) ?_ ?_
 rotate_left
 ·intro w'
  go_simp
  with_reducible rfl
 rotate_left
 ·simp only [putS]
  rfl
 refine done_ (done_of HT_.out (by kernel_rfl)) ?_
 clear hHeld HT_ HW_
 have HF := StoW.fin HS3.out (Kd.R_mono HO3.out (fun _ _ => trivial)) (.int .i64 R) (.int .i64 H)
 have HO4 := StoW.rowFin HS3.out HO3.out (.int .i64 R) (.int .i64 H) (.slice Av ps.length cv)
 have HP4 := StoW.rowFin HS3.out HP3.out (.int .i64 R) (.int .i64 H) (.slice Av ps.length cv)
 generalize ((W3.setCell ⟨gr, 0, none⟩ (.int .i64 R)).setCell ⟨gr, 1, none⟩ (.int .i64 H)).setCell ⟨gr, 2, none⟩ (.slice Av ps.length cv) = W4 at HF HO4 HP4 ⊢
 go_wp2
 refine bodyPost_ret (results_ctt rfl _ _ gr 26 #[.int .i64 R, .int .i64 H, .slice Av ps.length cv] (0, 0) _ rfl (by exact HF.1) Try.underlying26 rfl (by kernel_rfl)) rfl ?_
 exact ⟨_, _, rfl, HO4, HP4, HF.2.2.2.1⟩
end Go.Proofs.Ytipahijdcgoemaa.P
