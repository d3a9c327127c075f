-- Written by a program of this session over the translation (a variant of the printer, see wip/gen); Lean checks it.
import Derived.Test.YtdooakhjaffcdaaPx0
import Derived.Test.YtdooakhjaffcdaaPx1
import Derived.Test.YtdooakhjaffcdaaPx3
import Derived.Test.YtdooakhjaffcdaaPx5
import Derived.Test.YtdooakhjaffcdaaU
namespace Go.Proofs.Ytdooakhjaffcdaa.P
open Go.RowKit Go.Proofs.YtdooakhjaffcdaaW.PrintWords Go.Proofs.YtdooakhjaffcdaaW.PrintLast Go.Proofs.YtdooakhjaffcdaaW.PrintMore
attribute [local go_sem] Go.Proofs.Ytdooakhjaffcdaa.V.isSome_setCell max2_int min2_int max_two min_two max_three min_three max_four min_four   -- for this text's walks alone
set_option linter.unusedVariables false
set_option linter.unusedSimpArgs false

/-! ### spec_DrawOverstowsOf: function 5 -/
def spec_DrawOverstowsOf.f (k : Nat) (l0 : List Int) : Option (Int × (List (List Int)) × (List Int)) :=
  (spec_l1Cur_anyBay.f k l0 0 0).bind fun b => (spec_l1Cur_orderOf.f l0 b.2.2.1 b.2.2.2 b.1 b.2.1).bind fun p => some (b.1, b.2.1, p.1)
theorem spec_DrawOverstowsOf.mono : ∀ a0 k, LeO (spec_DrawOverstowsOf.f k a0) (spec_DrawOverstowsOf.f (k + 1) a0) := by
  intro a0 k
  unfold spec_DrawOverstowsOf.f
  exact LeO.bind (spec_l1Cur_anyBay.mono _ _ _ k) (fun _ => LeO.refl _)
/-- What stands while a bay and an order are drawn: the cursor; the bay's own cells; the result's. -/
def BayW (w0 w W : World) (g gs gr : Nat) (c : List Int) (i s : Int) (cs : Array Value) : Prop :=
  IsS39 w0 W g c i s ∧ Below w0.heap.size w0 W ∧ KeepBut w W g none ∧ W.heap[gs]? = some (.cells cs 26 (0, 0)) ∧ W.heap[gr]? = some (.cells #[.int .i64 0, .slice none 0 0] 26 (0, 0)) ∧ w.heap.size ≤ gs ∧ w.heap.size ≤ gr ∧ w0.heap.size ≤ w.heap.size ∧ gs ≠ gr
theorem BayW.pick {w0 w W W1 : World} {g gs gr : Nat} {c : List Int} {i s i1 s1 : Int} {cs : Array Value} (h : BayW w0 w W g gs gr c i s cs) (hi : IsS39 w0 W1 g c i1 s1) (hb : Below w0.heap.size w0 W1) (hk : KeepBut W W1 g none) : BayW w0 w W1 g gs gr c i1 s1 cs := by
  obtain ⟨h1, h2, h3, h4, h5, h6, h7, h8, h9⟩ := h
  exact ⟨hi, hb, h3.trans hk (.inl rfl), hk.blk h4 (Ne.symm (h1.ne_blk h4 (by decide))) (by simp), hk.blk h5 (Ne.symm (h1.ne_blk h5 (by decide))) (by simp), h6, h7, h8, h9⟩
theorem BayW.drewN {w0 w W : World} {g gs gr : Nat} {c : List Int} {i s : Int} {cs : Array Value} (h : BayW w0 w W g gs gr c i s cs) (n : Nat) : BayW w0 w (W.drewN n) g gs gr c i s cs := ⟨h.1, pw_below_drewN h.2.1 n, h.2.2⟩
theorem BayW.drew {w0 w W : World} {g gs gr : Nat} {c : List Int} {i s : Int} {cs : Array Value} (h : BayW w0 w W g gs gr c i s cs) : BayW w0 w W.drew g gs gr c i s cs := ⟨h.1, below_drew1 h.2.1, h.2.2⟩
theorem BayW.fin {w0 w W : World} {g gs gr : Nat} {c : List Int} {i s : Int} {cs : Array Value} {v : Value} {ps : List (List Int)} (h : BayW w0 w W g gs gr c i s cs) (ho : Kd.S (Kd.slice 3 (Kd.int .i64)) 27 W w.heap.size (fun _ => True) v ps) (a : Value) :
    ((W.setCell ⟨gr, 0, none⟩ a).setCell ⟨gr, 1, none⟩ v).heap[gr]? = some (.cells #[a, v] 26 (0, 0)) ∧ Kd.S (Kd.slice 3 (Kd.int .i64)) 27 ((W.setCell ⟨gr, 0, none⟩ a).setCell ⟨gr, 1, none⟩ v) w.heap.size (fun _ => True) v ps ∧ IsS39 w0 ((W.setCell ⟨gr, 0, none⟩ a).setCell ⟨gr, 1, none⟩ v) g c i s ∧ Below w0.heap.size w0 ((W.setCell ⟨gr, 0, none⟩ a).setCell ⟨gr, 1, none⟩ v) ∧ KeepBut w ((W.setCell ⟨gr, 0, none⟩ a).setCell ⟨gr, 1, none⟩ v) g none := by
  obtain ⟨h1, h2, h3, h4, h5, h6, h7, h8, h9⟩ := h
  have n1 := h1.ne_blk h5 (by decide)
  have b1 := blk_put h5 0 a rfl
  have b2 := blk_put b1 1 v rfl
  have f : ∀ {W : World} {cs : Array Value} (j : Nat) (u : Value), W.heap[gr]? = some (.cells cs 26 (0, 0)) → Kd.S (Kd.slice 3 (Kd.int .i64)) 27 W w.heap.size (fun _ => True) v ps → Kd.S (Kd.slice 3 (Kd.int .i64)) 27 (W.setCell ⟨gr, j, none⟩ u) w.heap.size (fun _ => True) v ps := fun j u hb ho => Kd.S_mono (Kd.S_far (p := ⟨gr, j, none⟩) (Kd.S_types ho hb (by decide)) (fun _ h => h.2) u) (fun _ h => h.1)
  refine ⟨b2, f 1 v b1 (f 0 a h5 ho), ?_, ?_, ?_⟩
  · exact (h1.far (p := ⟨gr, 0, none⟩) n1 a).far (p := ⟨gr, 1, none⟩) n1 v
  · exact below_set (below_set h2 (Nat.le_trans h8 h7)) (Nat.le_trans h8 h7)
  · exact keep_far (keep_far h3 (p := ⟨gr, 0, none⟩) h7 a) (p := ⟨gr, 1, none⟩) h7 v
theorem BayW.rowKeep {w0 w W W1 : World} {g gs gr : Nat} {c : List Int} {i s : Int} {cs : Array Value} {v : Value} {ps : List (List Int)} {ok : Nat → Prop} (h : BayW w0 w W g gs gr c i s cs) (ho : Kd.S (Kd.slice 3 (Kd.int .i64)) 27 W w.heap.size ok v ps) (hk : KeepBut W W1 g none) : Kd.S (Kd.slice 3 (Kd.int .i64)) 27 W1 w.heap.size ok v ps :=
  Kd.S_mono (Kd.S_keep (h.1.apartS ho (by decide)) hk (fun _ h => h.2)) (fun _ h => h.1)
/-- An elder row is apart from what a call made. -/
theorem BayW.rowElder {w0 w W W1 : World} {g gs gr : Nat} {c : List Int} {i s : Int} {cs : Array Value} {v u : Value} {ps : List (List Int)} {ys : List Int} (h : BayW w0 w W g gs gr c i s cs) (ho : Kd.S (Kd.slice 3 (Kd.int .i64)) 27 W w.heap.size (fun _ => True) v ps) (hk : KeepBut W W1 g none) (hu : Kd.R (Kd.int .i64) 3 W1 W.heap.size (fun _ => True) u ys) : Kd.S (Kd.slice 3 (Kd.int .i64)) 27 W1 w.heap.size (fun k_ => some k_ ≠ u.ownBlock) v ps := by
  refine Kd.S_mono (h.rowKeep (Kd.S_bound ho) hk) (fun k hq he => ?_)
  rcases Kd.R_base2 hu with h0 | ⟨b, hb, hle⟩
  · rw [h0] at he; cases he
  · rw [hb] at he
    have h1 : k = b := Option.some.inj he
    have h2 := hq.2.2.1
    omega
theorem BayW.rowFin {w0 w W : World} {g gs gr : Nat} {c : List Int} {i s : Int} {cs : Array Value} {u : Value} {ys : List (List Int)} {ok : Nat → Prop} (h : BayW w0 w W g gs gr c i s cs) (ho : Kd.S (Kd.slice 3 (Kd.int .i64)) 27 W w.heap.size ok u ys) (a v : Value) : Kd.S (Kd.slice 3 (Kd.int .i64)) 27 ((W.setCell ⟨gr, 0, none⟩ a).setCell ⟨gr, 1, none⟩ v) w.heap.size ok u ys := by
  have h5 := h.2.2.2.2.1
  have b1 := blk_put h5 0 a rfl
  have f : ∀ {W : World} {cs : Array Value} (j : Nat) (x : Value), W.heap[gr]? = some (.cells cs 26 (0, 0)) → Kd.S (Kd.slice 3 (Kd.int .i64)) 27 W w.heap.size ok u ys → Kd.S (Kd.slice 3 (Kd.int .i64)) 27 (W.setCell ⟨gr, j, none⟩ x) w.heap.size ok u ys := fun j x hb ho => Kd.S_mono (Kd.S_far (p := ⟨gr, j, none⟩) (Kd.S_types ho hb (by decide)) (fun _ h => h.2) x) (fun _ h => h.1)
  exact f 1 v b1 (f 0 a h5 ho)
theorem BayW.numFin {w0 w W : World} {g gs gr : Nat} {c : List Int} {i s : Int} {cs : Array Value} {u : Value} {ys : List Int} {ok : Nat → Prop} (h : BayW w0 w W g gs gr c i s cs) (ho : Kd.R (Kd.int .i64) 3 W w.heap.size ok u ys) (a v : Value) : Kd.R (Kd.int .i64) 3 ((W.setCell ⟨gr, 0, none⟩ a).setCell ⟨gr, 1, none⟩ v) w.heap.size ok u ys := by
  have h5 := h.2.2.2.2.1
  have b1 := blk_put h5 0 a rfl
  have f : ∀ {W : World} {cs : Array Value} (j : Nat) (x : Value), W.heap[gr]? = some (.cells cs 26 (0, 0)) → Kd.R (Kd.int .i64) 3 W w.heap.size ok u ys → Kd.R (Kd.int .i64) 3 (W.setCell ⟨gr, j, none⟩ x) w.heap.size ok u ys := fun j x hb ho => Kd.R_mono (Kd.R_far (p := ⟨gr, j, none⟩) (Kd.R_types ho hb (by decide)) (fun _ h => h.2) x) (fun _ h => h.1)
  exact f 1 v b1 (f 0 a h5 ho)
theorem BayW.gsFin {w0 w W : World} {g gs gr : Nat} {c : List Int} {i s : Int} {cs : Array Value} (h : BayW w0 w W g gs gr c i s cs) (a v : Value) : ((W.setCell ⟨gr, 0, none⟩ a).setCell ⟨gr, 1, none⟩ v).heap[gs]? = some (.cells cs 26 (0, 0)) :=
  blk_far (p := ⟨gr, 1, none⟩) (blk_far (p := ⟨gr, 0, none⟩) h.2.2.2.1 h.2.2.2.2.2.2.2.2 a) h.2.2.2.2.2.2.2.2 v
def spec_DrawOverstowsOf.T3 : Bool × List (List Nat × List Nat) := (true, [([], []), ([], []), ([], []), ([1, 2], [1, 2]), ([0, 3, 0], [0]), ([3, 4, 0, 1, 2, 3, 4], [3])])
def spec_DrawOverstowsOf.B3 : List Nat := [0, 0, 0, 6, 15, 31]
theorem spec_DrawOverstowsOf.tab3 : rtab .any (opsOf Try.f5 3) = spec_DrawOverstowsOf.T3 := by kernel_rfl
theorem spec_DrawOverstowsOf.bits3 : waitsOk spec_DrawOverstowsOf.T3.2 spec_DrawOverstowsOf.B3 = true := by kernel_rfl
set_option maxHeartbeats 8000000 in
set_option maxRecDepth 100000 in
theorem spec_DrawOverstowsOf.calls (k : Nat) (A0 : Option Addr) (c0 : Nat) (l0 : List Int) (r1 : Int) (r2 : List (List Int)) (r3 : List Int) (w : World) (hr0 : Kd.C (Kd.int .u8) w A0 l0.length l0) (hc0 : l0.length ≤ c0) (h : spec_DrawOverstowsOf.f k l0 = some (r1, r2, r3)) :
    Calls Try.prog 5 #[.slice A0 l0.length c0] w fun e w' => ∃ v0_ : Value, ∃ v1_ : Value, e = .returned (.tuple #[.agg #[.int .i64 r1, v0_], v1_]) ∧ Kd.S (Kd.slice 3 (Kd.int .i64)) 27 w' w.heap.size (fun k_ => some k_ ≠ (v1_ : Value).ownBlock) v0_ r2 ∧ Kd.R (Kd.int .i64) 3 w' w.heap.size (fun _ => True) v1_ r3 ∧ Below w.heap.size w w' := by
  have hu := Try.underlying26
  have HR0 := Aside0.mk hr0
  have HC0 := Aside0.mk hc0
  have HB := Aside0.mk (Below.refl w.heap.size w)
  clear hr0 hc0
  unfold spec_DrawOverstowsOf.f at h
  obtain ⟨⟨R, ps, i1, s1⟩, hA1, h⟩ := Option.bind_eq_some_iff.1 h
  obtain ⟨⟨pl, i2, s2⟩, hA2, h⟩ := Option.bind_eq_some_iff.1 h
  dsimp only at hA2 h
  have A1 := Aside0.mk hA1
  have A2 := Aside0.mk hA2
  clear hA1 hA2
  simp only [Option.some.injEq, Prod.mk.injEq] at h
  obtain ⟨rfl, rfl, rfl⟩ := h
  go_enter Try.func5, Try.ntmps5
  go_upto_region 3 with (first | ((with_reducible refine gate_dst (N := 2) rfl ?_); (try (refine gate_guard (by rfl) ?_; dsimp only)); refine box_event ?hg (N := 2) ?hd (cs := #[.int .i64 0, .slice none 0 0]) (t := 26) ?hr ?_; (case hd => rfl); (case hg => rfl); (case hr => first | (go_simp; done) | (go_simp; rfl)); intro gr hgr w1 hbox hb; have HB1 := Aside0.mk (below_step HB.out hb); have BR1 := Aside0.mk hbox; have GR := Aside0.mk (show w.heap.size ≤ gr by rw [hgr]; exact Nat.le_refl _); clear hb hbox hgr) | ((with_reducible refine gate_dst (N := 8) rfl ?_); refine box_event ?hg (N := 8) ?hd (cs := #[.slice A0 l0.length c0, .int .i64 0, .int .u64 0]) (t := 39) ?hr ?_; (case hd => rfl); (case hg => rfl); (case hr => first | (go_simp; done) | (go_simp; rfl)); intro gc hg w2 hbox hb; have HI2 := Aside0.mk (show IsS39 w w2 gc l0 0 0 from ⟨A0, c0, hbox, by rw [hg]; exact HB1.out.size, HR0.out⟩); have BR2 := Aside0.mk (blk_below BR1.out hb); have HB2 := Aside0.mk (below_step HB1.out hb); clear hg hbox hb) | ((with_reducible refine gate_callee (f := 13) rfl ?_); refine goesL_ (some 10) rfl rfl Try.func13 (by kernel_rfl) rfl #[.pointer (some ⟨gc, 0, none⟩)] rfl gmp ?_; refine (spec_l1Cur_anyBay.calls k gc l0 0 0 R ps i1 s1 w _ HI2.out HB2.out A1.out).mono ?_; rintro e w3 ⟨v, rfl, ho, hi, hb, hk⟩; refine ⟨_, rfl, ?_⟩; obtain ⟨Av, cv, rfl⟩ := Kd.S_slice ho; have HI3 := Aside0.mk hi; have HB3 := Aside0.mk hb; have HO3 := Aside0.mk (Kd.S_lower ho (below_size HB2.out)); have BR3 := Aside0.mk (KeepBut.blk hk BR2.out (Ne.symm (IsS39.ne_blk HI2.out BR2.out (by decide))) (by simp)); clear ho hi hb hk))
  have HS := Aside0.mk (show BayW w w (w3.alloc (.cells #[.int .i64 R, .slice Av ps.length cv] 26)) gc w3.heap.size gr l0 i1 s1 #[.int .i64 R, .slice Av ps.length cv] from ⟨IsS39.alloc HI3.out _, below_alloc HB3.out _, KeepBut.of_below (below_alloc HB3.out _) gc none, blk_new w3 (.cells #[.int .i64 R, .slice Av ps.length cv] 26 (0, 0)), blk_alloc BR3.out _, below_size HB3.out, GR.out, Nat.le_refl _, by have := blk_lt BR3.out; omega⟩)
  have HO := Aside0.mk (Kd.S_alloc HO3.out (.cells #[.int .i64 R, .slice Av ps.length cv] 26))
  clear HB HB1 BR1 HI2 BR2 HB2 HI3 HB3 HO3 BR3 A1 GR
  generalize w3.alloc (.cells #[.int .i64 R, .slice Av ps.length cv] 26) = w4 at HS HO ⊢
  generalize w3.heap.size = gs at HS ⊢
  have HS0 := Aside0.mk (BayW.drew HS.out)
  have HO0 := Aside0.mk (Kd.S_drew HO.out)
  clear HS HO
  refine start_ (n := 6) (S := fun w' => w'.cell? ⟨gs, 0, none⟩ = some (.int .i64 R) ∧ w'.cell? ⟨gs, 1, none⟩ = some (.slice Av ps.length cv)) (ds := []) #[false, false, false, false, false, false] (by kernel_rfl) rfl rfl ⟨(blk_cell (HS0.out.2.2.2.1) 0).trans rfl, (blk_cell (HS0.out.2.2.2.1) 1).trans rfl⟩ (fun hHeld => ?_)
  refine with_tabW spec_DrawOverstowsOf.tab3 spec_DrawOverstowsOf.bits3 (fun HT_ HW_ => ?_)
  generalize w4.drew = W0 at HS0 HO0 hHeld ⊢
  refine pure_ (i := 1) (N := some 12) (v := ?_) (a' := ?_) #[false, true, false, false, false, false] rfl rfl (any_of HT_.out (by kernel_rfl)) (fun _ _ _ h => h) (Or.inl ⟨by rfl, ?_⟩) ?_ ?_
  rotate_left
  · intro w'
    go_simp
    with_reducible rfl
  rotate_left
  · simp only [Act.put, List.setIfInBounds_toArray, List.set_cons_zero, List.set_cons_succ, i64_w, i32_w]
    rfl
  refine take_ (i := 0) (N := some 11) (v := ?_) (a' := ?_) #[true, true, false, false, false, false] rfl rfl (take_ofW HT_.out HW_.out (by kernel_rfl)) (fun _ _ _ h => h) (Or.inl ⟨by rfl, ?_⟩) hHeld ?_ ?_
  rotate_left
  · rintro w' ⟨s0, s1⟩
    go_simp
    with_reducible rfl
  rotate_left
  · simp only [Act.put, List.setIfInBounds_toArray, List.set_cons_zero, List.set_cons_succ, i64_w, i32_w]
    rfl
  refine take_ (i := 2) (N := some 13) (v := ?_) (a' := ?_) #[true, true, true, false, false, false] rfl rfl (take_ofW HT_.out HW_.out (by kernel_rfl)) (fun _ _ _ h => h) (Or.inl ⟨by rfl, ?_⟩) hHeld ?_ ?_
  rotate_left
  · rintro w' ⟨s0, s1⟩
    go_simp
    with_reducible rfl
  rotate_left
  · simp only [Act.put, List.setIfInBounds_toArray, List.set_cons_zero, List.set_cons_succ, i64_w, i32_w]
    rfl
  refine one_ (i := 3) (N := some 14) #[true, true, true, true, false, false] rfl rfl (one_of HT_.out (by kernel_rfl)) (by decide) (fun K hK => ?_)
  refine goes_ Try.func14 (by kernel_rfl) rfl #[.pointer (some ⟨gc, 0, none⟩), .agg #[.int .i64 R, .slice Av ps.length cv]] (by rfl) rfl rfl gmp ?_
  refine (spec_l1Cur_orderOf.calls gc l0 i1 s1 R Av cv ps pl i2 s2 w _ HS0.out.1 HS0.out.2.1 (fun W_ hk_ => (Kd.S_reads' (Kd.S_keep (HS0.out.1.apartS HO0.out (by decide)) hk_ (fun _ h => h.2))).2.2) (Kd.S_reads' HO0.out).2.1 A2.out).mono ?_
  rintro e W3 ⟨v15, rfl, ho, hi, hb, hk⟩
  refine ⟨_, rfl, ?_⟩
  obtain ⟨A15, c15, rfl⟩ := Kd.R_slice ho
  have HS3 := Aside0.mk (BayW.pick HS0.out hi hb hk)
  have HO3 := Aside0.mk (BayW.rowElder HS0.out HO0.out hk ho)
  have HP3 := Aside0.mk (Kd.R_mono (Kd.R_lower (Kd.R_new' ho (Kd.S_lt HO0.out)) HS0.out.2.2.1.1) (fun _ h => h.2))
  have d0_ : W3.cell? ⟨gr, 0, none⟩ = some (.int .i64 0) := (blk_cell HS3.out.2.2.2.2.1 0).trans rfl
  have d1_ : W3.cell? ⟨gr, 1, none⟩ = some (.slice none 0 0) := (blk_cell HS3.out.2.2.2.2.1 1).trans rfl
  have f0_ := blk_frozen HS3.out.2.2.2.2.1 0
  have f1_ := blk_frozen HS3.out.2.2.2.2.1 1
  clear hi hb hk ho HS0 HO0
  refine hK.out _ _ ⟨(blk_cell (HS3.out.2.2.2.1) 0).trans rfl, (blk_cell (HS3.out.2.2.2.1) 1).trans rfl⟩ (fun hHeld => ?_)
  clear hK K
  refine norm_ (a' := ?_) ?_ ?_
  rotate_left
  · show Act.put _ (some 14) _ = _
    simp only [Act.put, List.setIfInBounds_toArray, List.set_cons_zero, List.set_cons_succ, i64_w, i32_w]
    rfl
  refine one_ (i := 4) (N := none) #[true, true, true, true, true, false] rfl rfl (one_of HT_.out (by kernel_rfl)) (by decide) (fun K hK => ?_)
  refine skip_ (w1 := ?_) (by rfl) rfl ?_ ?_
  rotate_left
  · go_simp
    rfl
  refine hK.out _ _ ⟨(blk_cell (BayW.gsFin HS3.out (.int .i64 R) (.slice Av ps.length cv)) 0).trans rfl, (blk_cell (BayW.gsFin HS3.out (.int .i64 R) (.slice Av ps.length cv)) 1).trans rfl⟩ (fun hHeld => ?_)
  clear hK K
  clear d0_ d1_ f0_ f1_
  refine pure_ (i := 5) (N := some 3) (v := ?_) (a' := ?_) #[true, true, true, true, true, true] rfl rfl (any_of HT_.out (by kernel_rfl)) (fun _ _ _ h => h) (Or.inl ⟨by rfl, ?_⟩) ?_ ?_
  rotate_left
  · intro w'
    go_simp
    with_reducible rfl
  rotate_left
  · simp only [Act.put, List.setIfInBounds_toArray, List.set_cons_zero, List.set_cons_succ, i64_w, i32_w]
    rfl
  refine done_ (done_of HT_.out (by kernel_rfl)) ?_
  clear hHeld HT_ HW_
  have HF := BayW.fin HS3.out (Kd.S_mono HO3.out (fun _ _ => trivial)) (.int .i64 R)
  have HO4 := BayW.rowFin HS3.out HO3.out (.int .i64 R) (.slice Av ps.length cv)
  have HP4 := BayW.numFin HS3.out HP3.out (.int .i64 R) (.slice Av ps.length cv)
  generalize (W3.setCell ⟨gr, 0, none⟩ (.int .i64 R)).setCell ⟨gr, 1, none⟩ (.slice Av ps.length cv) = W4 at HF HO4 HP4 ⊢
  go_wp2
  refine bodyPost_ret (results_ct rfl _ _ gr 26 #[.int .i64 R, .slice Av ps.length cv] (0, 0) _ rfl (by exact HF.1) Try.underlying26 rfl (by kernel_rfl)) rfl ?_
  exact ⟨_, _, rfl, HO4, Kd.R_mono HP4 (fun _ _ => trivial), HF.2.2.2.1⟩


end Go.Proofs.Ytdooakhjaffcdaa.P
