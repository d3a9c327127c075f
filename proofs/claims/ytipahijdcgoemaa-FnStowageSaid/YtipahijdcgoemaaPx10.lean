-- Written by a program of this session over the translation (a variant of the printer, see wip/gen); Lean checks it.
import Derived.Test.YtipahijdcgoemaaPx0
import Derived.Test.YtipahijdcgoemaaPx9
import Derived.Test.YtipahijdcgoemaaU
import Derived.Test.YtipahijdcgoemaaDrw
namespace Go.Proofs.Ytipahijdcgoemaa.P
open Go.RowKit Go.Proofs.YtipahijdcgoemaaW.PrintWords Go.Proofs.YtipahijdcgoemaaW.PrintLast Go.Proofs.YtipahijdcgoemaaW.PrintMore
attribute [local go_sem] Go.Proofs.Ytipahijdcgoemaa.V.isSome_setCell max2_int min2_int max_two min_two max_three min_three max_four min_four
set_option linter.unusedVariables false
set_option linter.unusedSimpArgs false
/-! ### spec_l1Cur_stowage: function 23 -/
/-- The ports of a stowage that is drawn. -/
def dwPorts (c : List Int) : Nat → Int → Int → List Int → Option (List Int × Int × Int)
  | 0, i, s, l => some (l, i, s)
  | m + 1, i, s, l => (spec_l1Cur_pick.f c i s 4).bind fun b => if l.length < 1000 then dwPorts c m b.2.1 b.2.2 (l ++ [wrap64 (1 + b.1)]) else none
def dwEnd (c : List Int) (R H : Int) (ps : List Int) (z i s : Int) : Option (Int × Int × List Int × Int × Int) :=
  if z = 0 then (spec_l1Cur_among.f c i s [0, 6, 5]).bind fun x => some (x.1, H, ps, x.2.1, x.2.2)
  else if z = 1 then (spec_l1Cur_among.f c i s [0, 5, 4]).bind fun x => some (R, x.1, ps, x.2.1, x.2.2)
  else if z = 2 then (spec_l1Cur_among.f c i s [0, 10, 9]).bind fun x => if ps.length < 1000 then some (R, H, ps ++ [x.1], x.2.1, x.2.2) else none
  else if z = 3 then (spec_l1Cur_pick.f c i s 2).bind fun x => if 0 ≤ x.1 ∧ x.1 < 2 then some (R, H, ([1, 2, 3, 4, 1, 2, 3, 4] : List Int).take (7 + x.1.toNat), x.2.1, x.2.2) else none
  else some (R, H, ps, i, s)
def spec_l1Cur_stowage.f (c : List Int) (i s : Int) : Option (Int × Int × List Int × Int × Int) :=
  (spec_l1Cur_pick.f c i s 3).bind fun a => (spec_l1Cur_pick.f c a.2.1 a.2.2 4).bind fun b =>
  (spec_l1Least.f (wrap64 (wrap64 (1 + a.1) * wrap64 (1 + b.1))) 6).bind fun t => (spec_l1Cur_pick.f c b.2.1 b.2.2 (wrap64 (t + 1))).bind fun n =>
  (if 0 ≤ n.1 ∧ n.1 < 1000 then dwPorts c n.1.toNat n.2.1 n.2.2 [] else none).bind fun p => (spec_l1Cur_pick.f c p.2.1 p.2.2 24).bind fun z =>
  dwEnd c (wrap64 (1 + a.1)) (wrap64 (1 + b.1)) p.1 z.1 z.2.1 z.2.2
/-- What stands while a stowage is drawn: the cursor; the stowage's own cells; the result's. -/
def StoW (w0 w W : World) (g gs gr : Nat) (c : List Int) (i s : Int) (cs : Array Value) : Prop :=
  IsS52 w0 W g c i s ∧ Below w0.heap.size w0 W ∧ KeepBut w W g none ∧ W.heap[gs]? = some (.cells cs 26 (0, 0)) ∧ W.heap[gr]? = some (.cells #[.int .i64 0, .int .i64 0, .slice none 0 0] 26 (0, 0)) ∧ w.heap.size ≤ gs ∧ w.heap.size ≤ gr ∧ w0.heap.size ≤ w.heap.size ∧ gs ≠ gr
theorem StoW.pick {w0 w W W1 : World} {g gs gr : Nat} {c : List Int} {i s i1 s1 : Int} {cs : Array Value} (h : StoW w0 w W g gs gr c i s cs) (hi : IsS52 w0 W1 g c i1 s1) (hb : Below w0.heap.size w0 W1) (hk : KeepBut W W1 g none) : StoW w0 w W1 g gs gr c i1 s1 cs := by
 obtain ⟨h1, h2, h3, h4, h5, h6, h7, h8, h9⟩ := h
 exact ⟨hi, hb, h3.trans hk (.inl rfl), hk.blk h4 (Ne.symm (h1.ne_blk h4 (by decide))) (by simp), hk.blk h5 (Ne.symm (h1.ne_blk h5 (by decide))) (by simp), h6, h7, h8, h9⟩
theorem StoW.drewN {w0 w W : World} {g gs gr : Nat} {c : List Int} {i s : Int} {cs : Array Value} (h : StoW w0 w W g gs gr c i s cs) (n : Nat) : StoW w0 w (W.drewN n) g gs gr c i s cs := ⟨h.1, pw_below_drewN h.2.1 n, h.2.2⟩
theorem StoW.drew {w0 w W : World} {g gs gr : Nat} {c : List Int} {i s : Int} {cs : Array Value} (h : StoW w0 w W g gs gr c i s cs) : StoW w0 w W.drew g gs gr c i s cs := ⟨h.1, below_drew1 h.2.1, h.2.2⟩
theorem StoW.grown {w0 w W W1 : World} {g gs gr : Nat} {c : List Int} {i s : Int} {cs : Array Value} {row : Option Nat} (h : StoW w0 w W g gs gr c i s cs) (hb : Below w.heap.size W W1) (hg : W.grownBy W1 row) (r1 : some g ≠ row) (r2 : some gs ≠ row) (r3 : some gr ≠ row) : StoW w0 w W1 g gs gr c i s cs := by
 obtain ⟨h1, h2, h3, h4, h5, h6, h7, h8, h9⟩ := h
 exact ⟨h1.grown hg r1, below_weaken h2 h8 hb, ⟨Nat.le_trans h3.1 hg.size, fun k hk hne hr => (hb.block k hk).trans (h3.2 k hk hne hr)⟩, blk_grown h4 hg r2, blk_grown h5 hg r3, h6, h7, h8, h9⟩
theorem StoW.alloc {w0 w W : World} {g gs gr : Nat} {c : List Int} {i s : Int} {cs : Array Value} (h : StoW w0 w W g gs gr c i s cs) (o : Obj) : StoW w0 w (W.alloc o) g gs gr c i s cs :=
  h.grown (row := none) (below_alloc (Below.refl _ _) o |>.mono h.2.2.1.1) (World.grownBy_alloc W o none) (by simp) (by simp) (by simp)
theorem StoW.put {w0 w W : World} {g gs gr : Nat} {c : List Int} {i s : Int} {cs cs' : Array Value} (h : StoW w0 w W g gs gr c i s cs) (j : Nat) (u : Value) (e : cs.setIfInBounds j u = cs') : StoW w0 w (W.setCell ⟨gs, j, none⟩ u) g gs gr c i s cs' := by
 obtain ⟨h1, h2, h3, h4, h5, h6, h7, h8, h9⟩ := h
 exact ⟨h1.far (p := ⟨gs, j, none⟩) (h1.ne_blk h4 (by decide)) u, below_set h2 (Nat.le_trans h8 h6), keep_far h3 (p := ⟨gs, j, none⟩) h6 u, blk_put h4 j u e, blk_far h5 (p := ⟨gs, j, none⟩) (Ne.symm h9) u, h6, h7, h8, h9⟩
theorem StoW.rowPick {w0 w W W1 : World} {g gs gr : Nat} {c : List Int} {i s : Int} {cs : Array Value} {v : Value} {ps : List Int} (h : StoW w0 w W g gs gr c i s cs) (ho : Kd.R (Kd.int .i64) 3 W w.heap.size (fun _ => True) v ps) (hk : KeepBut W W1 g none) : Kd.R (Kd.int .i64) 3 W1 w.heap.size (fun _ => True) v ps :=
  Kd.R_mono (Kd.R_keep (h.1.apart ho (by decide)) hk (fun _ h => h.2)) (fun _ h => h.1)
theorem StoW.rowPut {w0 w W : World} {g gs gr : Nat} {c : List Int} {i s : Int} {cs : Array Value} {v : Value} {ps : List Int} (h : StoW w0 w W g gs gr c i s cs) (ho : Kd.R (Kd.int .i64) 3 W w.heap.size (fun _ => True) v ps) (j : Nat) (u : Value) : Kd.R (Kd.int .i64) 3 (W.setCell ⟨gs, j, none⟩ u) w.heap.size (fun _ => True) v ps :=
  Kd.R_mono (Kd.R_far (p := ⟨gs, j, none⟩) (Kd.R_types ho h.2.2.2.1 (by decide)) (fun _ h => h.2) u) (fun _ h => h.1)
theorem StoW.fin {w0 w W : World} {g gs gr : Nat} {c : List Int} {i s : Int} {cs : Array Value} {v : Value} {ps : List Int} (h : StoW w0 w W g gs gr c i s cs) (ho : Kd.R (Kd.int .i64) 3 W w.heap.size (fun _ => True) v ps) (a b : Value) :
    (((W.setCell ⟨gr, 0, none⟩ a).setCell ⟨gr, 1, none⟩ b).setCell ⟨gr, 2, none⟩ v).heap[gr]? = some (.cells #[a, b, v] 26 (0, 0)) ∧ Kd.R (Kd.int .i64) 3 (((W.setCell ⟨gr, 0, none⟩ a).setCell ⟨gr, 1, none⟩ b).setCell ⟨gr, 2, none⟩ v) w.heap.size (fun _ => True) v ps ∧ IsS52 w0 (((W.setCell ⟨gr, 0, none⟩ a).setCell ⟨gr, 1, none⟩ b).setCell ⟨gr, 2, none⟩ v) g c i s ∧ Below w0.heap.size w0 (((W.setCell ⟨gr, 0, none⟩ a).setCell ⟨gr, 1, none⟩ b).setCell ⟨gr, 2, none⟩ v) ∧ KeepBut w (((W.setCell ⟨gr, 0, none⟩ a).setCell ⟨gr, 1, none⟩ b).setCell ⟨gr, 2, none⟩ v) g none := by
 obtain ⟨h1, h2, h3, h4, h5, h6, h7, h8, h9⟩ := h
 have n1 := h1.ne_blk h5 (by decide)
 have b1 := blk_put h5 0 a rfl
 have b2 := blk_put b1 1 b rfl
 have b3 := blk_put b2 2 v rfl
 have f : ∀ {W : World} {cs : Array Value} (j : Nat) (u : Value), W.heap[gr]? = some (.cells cs 26 (0, 0)) → Kd.R (Kd.int .i64) 3 W w.heap.size (fun _ => True) v ps → Kd.R (Kd.int .i64) 3 (W.setCell ⟨gr, j, none⟩ u) w.heap.size (fun _ => True) v ps := fun j u hb ho => Kd.R_mono (Kd.R_far (p := ⟨gr, j, none⟩) (Kd.R_types ho hb (by decide)) (fun _ h => h.2) u) (fun _ h => h.1)
 refine ⟨b3, f 2 v b2 (f 1 b b1 (f 0 a h5 ho)), ?_, ?_, ?_⟩
 ·exact ((h1.far (p := ⟨gr, 0, none⟩) n1 a).far (p := ⟨gr, 1, none⟩) n1 b).far (p := ⟨gr, 2, none⟩) n1 v
 ·exact below_set (below_set (below_set h2 (Nat.le_trans h8 h7)) (Nat.le_trans h8 h7)) (Nat.le_trans h8 h7)
 exact keep_far (keep_far (keep_far h3 (p := ⟨gr, 0, none⟩) h7 a) (p := ⟨gr, 1, none⟩) h7 b) (p := ⟨gr, 2, none⟩) h7 v
def spec_l1Cur_stowage.T5 : Bool × List (List Nat × List Nat) := (true, [([], []), ([0], [0]), ([], []), ([2], [2]), ([3], [3]), ([4], [4]), ([1, 5, 3], [1, 5]), ([0, 1, 2, 3, 4, 5, 6], []), ([7, 6, 6, 0, 1, 2, 3, 4, 5, 6], [6, 7])])
def spec_l1Cur_stowage.B5 : List Nat := [0, 1, 0, 4, 12, 28, 63, 127, 255]
theorem spec_l1Cur_stowage.tab5 : rtab .any (opsOf Try.f23 5) = spec_l1Cur_stowage.T5 := by kernel_rfl
theorem spec_l1Cur_stowage.bits5 : waitsOk spec_l1Cur_stowage.T5.2 spec_l1Cur_stowage.B5 = true := by kernel_rfl
def spec_l1Cur_stowage.T12 : Bool × List (List Nat × List Nat) := (true, [([], []), ([0], [0]), ([], []), ([], []), ([2, 3], [2, 3]), ([4], [4]), ([1, 5, 4], [1, 5]), ([0, 1, 2, 3, 4, 5, 6], []), ([7, 6, 6, 0, 1, 2, 3, 4, 5, 6], [6, 7])])
def spec_l1Cur_stowage.B12 : List Nat := [0, 1, 0, 0, 12, 28, 63, 127, 255]
theorem spec_l1Cur_stowage.tab12 : rtab .any (opsOf Try.f23 12) = spec_l1Cur_stowage.T12 := by kernel_rfl
theorem spec_l1Cur_stowage.bits12 : waitsOk spec_l1Cur_stowage.T12.2 spec_l1Cur_stowage.B12 = true := by kernel_rfl
set_option maxHeartbeats 8000000 in
set_option maxRecDepth 100000 in
/-- THE CALL -/
theorem spec_l1Cur_stowage.calls (g : Nat) (s0_0 : List Int) (s0_1 : Int) (s0_2 : Int) (r1 : Int) (r2 : Int) (r3 : List Int) (r4 : Int) (r5 : Int) (w0 w : World) (hI : IsS52 w0 w g s0_0 s0_1 s0_2) (hB : Below w0.heap.size w0 w) (h : spec_l1Cur_stowage.f s0_0 s0_1 s0_2 = some (r1, r2, r3, r4, r5)) :
    Calls Try.prog 23 #[.pointer (some ⟨g, 0, none⟩)] w fun e w' => ∃ v0_ : Value, e = .returned (.agg #[.int .i64 r1, .int .i64 r2, v0_]) ∧ Kd.R (Kd.int .i64) 3 w' w.heap.size (fun _ => True) v0_ r3 ∧ IsS52 w0 w' g s0_0 r4 r5 ∧ Below w0.heap.size w0 w' ∧ KeepBut w w' g none := by
 have hu := Try.underlying26
 unfold spec_l1Cur_stowage.f at h
 obtain ⟨⟨a, i1, s1⟩, hA1, h⟩ := Option.bind_eq_some_iff.1 h
 obtain ⟨⟨b, i2, s2⟩, hA2, h⟩ := Option.bind_eq_some_iff.1 h
 obtain ⟨t, hA3, h⟩ := Option.bind_eq_some_iff.1 h
 obtain ⟨⟨n, i3, s3⟩, hA4, h⟩ := Option.bind_eq_some_iff.1 h
 obtain ⟨⟨ps, i4, s4⟩, hA5, h⟩ := Option.bind_eq_some_iff.1 h
 obtain ⟨⟨z, i5, s5⟩, hA6, hA7⟩ := Option.bind_eq_some_iff.1 h
 clear h
 dsimp only at hA2 hA3 hA4 hA5 hA6 hA7
 have A1 := Aside0.mk hA1
 have A2 := Aside0.mk hA2
 have A3 := Aside0.mk hA3
 have A4 := Aside0.mk hA4
 have A5 := Aside0.mk hA5
 have A6 := Aside0.mk hA6
 have A7 := Aside0.mk hA7
 have HI := Aside0.mk hI
 have HB := Aside0.mk hB
 have HK := Aside0.mk (KeepBut.refl w g none)
 clear hA1 hA2 hA3 hA4 hA5 hA6 hA7 hI hB
 obtain ⟨R, hR⟩ : ∃ x, x = wrap64 (1 + a) := ⟨_, rfl⟩
 obtain ⟨H, hH⟩ : ∃ x, x = wrap64 (1 + b) := ⟨_, rfl⟩
 rw [← hR, ← hH] at A3 A7
 have HRa := Aside0.mk hR
 have HHb := Aside0.mk hH
 clear hR hH
 go_enter Try.func23, Try.ntmps23
 go_upto_region 2 with (first | ((with_reducible refine gate_dst (N := 2) rfl ?_); (try (refine gate_guard (by rfl) ?_; dsimp only)); refine box_event ?hg (N := 2) ?hd (cs := #[.int .i64 0, .int .i64 0, .slice none 0 0]) (t := 26) ?hr ?_; (case hd => rfl); (case hg => rfl); (case hr => first | (go_simp; done) | (go_simp; rfl)); intro gr hgr w1 hbox hb; have HI1 := Aside0.mk (IsS52.below HI.out hb); have HK1 := Aside0.mk (KeepBut.trans HK.out (KeepBut.of_below hb g none) (.inl rfl)); have HB1 := Aside0.mk (below_step HB.out hb); have BR1 := Aside0.mk hbox; have GR := Aside0.mk (show w.heap.size ≤ gr by rw [hgr]; exact Nat.le_refl _); clear hb hbox hgr) | ((with_reducible refine gate_callee (f := 51) rfl ?_); refine goesL_ (some 6) rfl rfl Try.func51 (by kernel_rfl) rfl #[.pointer (some ⟨g, 0, none⟩), .int .i64 3] rfl gmp ?_; refine (spec_l1Cur_pick.calls g s0_0 s0_1 s0_2 3 a i1 s1 w0 _ HI1.out HB1.out A1.out).mono ?_; rintro e w2 ⟨rfl, hi, hb, hk⟩; refine ⟨_, rfl, ?_⟩; have HI2 := Aside0.mk hi; have HB2 := Aside0.mk hb; have HK2 := Aside0.mk (KeepBut.trans HK1.out hk (.inl rfl)); have BR2 := Aside0.mk (KeepBut.blk hk BR1.out (Ne.symm (IsS52.ne_blk HI1.out BR1.out (by decide))) (by simp)); clear hi hb hk) | ((with_reducible refine gate_callee (f := 51) rfl ?_); refine goesL_ (some 9) rfl rfl Try.func51 (by kernel_rfl) rfl #[.pointer (some ⟨g, 0, none⟩), .int .i64 4] rfl gmp ?_; refine (spec_l1Cur_pick.calls g s0_0 i1 s1 4 b i2 s2 w0 _ HI2.out HB2.out A2.out).mono ?_; rintro e w3 ⟨rfl, hi, hb, hk⟩; refine ⟨_, rfl, ?_⟩; have HI3 := Aside0.mk hi; have HB3 := Aside0.mk hb; have HK3 := Aside0.mk (KeepBut.trans HK2.out hk (.inl rfl)); have BR3 := Aside0.mk (KeepBut.blk hk BR2.out (Ne.symm (IsS52.ne_blk HI2.out BR2.out (by decide))) (by simp)); clear hi hb hk))
 (try simp only [i64_w])
 rw [← HRa.out, ← HHb.out]
 clear HRa HHb
 have HS := Aside0.mk (show StoW w0 w (w3.alloc (.cells #[.int .i64 R, .int .i64 H, .slice none 0 0] 26)) g w3.heap.size gr s0_0 i2 s2 #[.int .i64 R, .int .i64 H, .slice none 0 0] from ⟨IsS52.alloc HI3.out _, below_alloc HB3.out _, keep_alloc HK3.out _, blk_new w3 (.cells #[.int .i64 R, .int .i64 H, .slice none 0 0] 26 (0, 0)), blk_alloc BR3.out _, keep_size HK3.out, GR.out, HB.out.size, by have := blk_lt BR3.out; omega⟩)
 clear HI HB HK HI1 HB1 HK1 BR1 HI2 HB2 HK2 BR2 HI3 HB3 HK3 BR3
 generalize w3.alloc (.cells #[.int .i64 R, .int .i64 H, .slice none 0 0] 26) = w4 at HS ⊢
 generalize w3.heap.size = gs at HS ⊢
 have c40 : w4.cell? ⟨gs, 0, none⟩ = some (.int .i64 R) := (blk_cell HS.out.2.2.2.1 0).trans rfl
 have c41 : w4.cell? ⟨gs, 1, none⟩ = some (.int .i64 H) := (blk_cell HS.out.2.2.2.1 1).trans rfl
 have hn0 : (0 ≤ n ∧ n < 1000) := by have h1 := A5.out; by_cases hx : 0 ≤ n ∧ n < 1000; exact hx; rw [if_neg hx] at h1; exact absurd h1 (by simp)
 have HN := Aside0.mk hn0
 replace A5 := Aside0.mk (show dwPorts s0_0 n.toNat i3 s3 [] = some (ps, i4, s4) by have h1 := A5.out; rw [if_pos HN.out] at h1; exact h1)
 clear hn0
 go_wp2_with (first | ((with_reducible refine gate_callee (f := 52) rfl ?_); refine goesL_ (some 18) rfl rfl Try.func52 (by kernel_rfl) rfl #[.int .i64 (wrap64 (R * H)), .int .i64 6] rfl gmp ?_; (with_reducible refine (spec_l1Least.calls (wrap64 (R * H)) 6 t _ A3.out).mono ?_); rintro e w' ⟨rfl, ⟨nd, rfl⟩⟩; refine ⟨_, rfl, ?_⟩; have HS4 := Aside0.mk (StoW.drewN HS.out nd)) | ((with_reducible refine gate_callee (f := 51) rfl ?_); refine goesL_ (some 20) rfl rfl Try.func51 (by kernel_rfl) rfl #[.pointer (some ⟨g, 0, none⟩), .int .i64 (wrap64 (t + 1))] rfl gmp ?_; refine (spec_l1Cur_pick.calls g s0_0 i2 s2 ((wrap64 (t + 1))) n i3 s3 w0 _ HS4.out.1 HS4.out.2.1 A4.out).mono ?_; rintro e w5 ⟨rfl, hi, hb, hk⟩; refine ⟨_, rfl, ?_⟩; have HS5 := Aside0.mk (StoW.pick HS4.out hi hb hk); clear hi hb hk))
 clear HS HS4 c40 c41
 go_loopw [4] (fun v4 wr => ∃ (m : Nat) (i s : Int) (l : List Int) (v : Value), v4 = .int .i64 (m : Int) ∧ Aside0 (m < 1000) ∧ Aside0 (dwPorts s0_0 m i s l = some (ps, i4, s4)) ∧ Aside0 (StoW w0 w wr g gs gr s0_0 i s #[.int .i64 R, .int .i64 H, v]) ∧ Aside0 (Kd.R (Kd.int .i64) 3 wr w.heap.size (fun _ => True) v l)) (fun v4 wr => (intOf v4).toNat)
 case atStart => exact ⟨n.toNat, i3, s3, [], .slice none 0 0, by rw [Int.toNat_of_nonneg HN.out.1], ⟨by have := HN.out; omega⟩, A5, HS5, ⟨Kd.R_nil _ _ _ _ _⟩⟩
 clear A1 A2 A3 A4 A5 HS5 HN
 obtain ⟨m, i, s, l, v, rfl, HM, HD, HS, HO⟩ := hrel
 cases m with
 | zero =>
  have hD := HD.out
  simp only [dwPorts, Option.some.injEq, Prod.mk.injEq] at hD
  obtain ⟨e1, e2, e3⟩ := hD
  rw [e2, e3] at HS
  rw [e1] at HO
  obtain ⟨Av, cv, rfl⟩ := Kd.R_slice HO.out
  clear e1 e2 e3 HD HM
  have hE := A7.out
  clear A7
  unfold dwEnd at hE
  have hn_ : ¬ ((0 : Int) < ((0 : Nat) : Int)) := by decide
  by_cases z0 : z = 0
  ·have zb0 : (z == 0) = true := beq_iff_eq.2 z0
   rw [if_pos z0] at hE
   clear z0
   obtain ⟨⟨x, i6, s6⟩, hX, hE⟩ := Option.bind_eq_some_iff.1 hE
   dsimp only at hE
   have HX := Aside0.mk hX
   clear hX
   simp only [Option.some.injEq, Prod.mk.injEq] at hE
   obtain ⟨rfl, rfl, rfl, rfl, rfl⟩ := hE
   go_upto_region 15 with (first | ((with_reducible refine gate_callee (f := 51) rfl ?_); refine goesL_ (some 34) rfl rfl Try.func51 (by kernel_rfl) rfl #[.pointer (some ⟨g, 0, none⟩), .int .i64 24] rfl gmp ?_; refine (spec_l1Cur_pick.calls g s0_0 i4 s4 24 z i5 s5 w0 _ HS.out.1 HS.out.2.1 A6.out).mono ?_; rintro e W7 ⟨rfl, hi, hb, hk⟩; refine ⟨_, rfl, ?_⟩; have HS7 := Aside0.mk (StoW.pick HS.out hi hb hk); have HO7 := Aside0.mk (StoW.rowPick HS.out HO.out hk); skip; clear hi hb hk) | ((with_reducible refine gate_dst (N := 38) rfl ?_); refine Kd.R_lit (Kd.int .i64) _ 3 ?hg (N := 38) ?hd (xs := ([0, 6, 5] : List Int)) (inner := [.int .i64 0, .int .i64 6, .int .i64 5]) (ok := fun _ => True) (okp := fun _ => True) ?hr ?hp (fun _ hk => hk) trivial (Below.refl _ _) (Nat.le_refl _) (by simp) ?_; (case hd => rfl); (case hg => rfl); (case hr => first | (go_simp; done) | (go_simp; rfl)); (case hp => exact (Reps.one (show Kd.M (Kd.int .i64) _ _ _ 0 [.int .i64 0] from rfl) (Reps.one (show Kd.M (Kd.int .i64) _ _ _ 6 [.int .i64 6] from rfl) (Reps.one (show Kd.M (Kd.int .i64) _ _ _ 5 [.int .i64 5] from rfl) (Reps.none _ _))))); intro v8 W8 h8 hb hg_ hnew_; obtain ⟨A8, c8, rfl⟩ := Kd.R_slice h8; have HS8 := Aside0.mk (StoW.grown HS7.out (hb.mono HS7.out.2.2.1.1) hg_ (by simp) (by simp) (by simp)); have HO8 := Aside0.mk (Kd.R_below HO7.out hb); have HQ8 := Aside0.mk (Kd.R_lower h8 HS7.out.2.2.1.1); skip; clear hb hg_ hnew_ h8) | ((with_reducible refine gate_callee (f := 25) rfl ?_); refine goesL_ (some 39) rfl rfl Try.func25 (by kernel_rfl) rfl #[.pointer (some ⟨g, 0, none⟩), .slice A8 ([0, 6, 5] : List Int).length c8] rfl gmp ?_; refine (spec_l1Cur_among.calls g s0_0 i5 s5 A8 c8 [0, 6, 5] x i6 s6 w0 _ HS8.out.1 HS8.out.2.1 (Kd.R_reads' HQ8.out).2.2 (Kd.R_reads' HQ8.out).2.1 (fun ad e _ hb => IsS52.own_ne HS8.out.1 HQ8.out (by decide) (by rw [e, ← hb]; rfl)) HX.out).mono ?_; rintro e W9 ⟨rfl, hi, hb, hk⟩; refine ⟨_, rfl, ?_⟩; have HS9 := Aside0.mk (StoW.pick HS8.out hi hb hk); have HO9 := Aside0.mk (StoW.rowPick HS8.out HO8.out hk); have hc9 := (blk_cell HS9.out.2.2.2.1 0); have hf9 := blk_frozen HS9.out.2.2.2.1 0; clear hi hb hk))
   have HSF := Aside0.mk (StoW.put HS9.out 0 (.int .i64 x) (cs' := #[.int .i64 x, .int .i64 H, .slice Av ps.length cv]) rfl)
   have HOF := Aside0.mk (StoW.rowPut HS9.out HO9.out 0 (.int .i64 x))
   clear hc9 hf9 HS7 HO7 HS8 HO8 HQ8 HS9 HO9
   generalize W9.setCell ⟨gs, 0, none⟩ (.int .i64 x) = WF at HSF HOF ⊢
   have c0_ : WF.cell? ⟨gs, 0, none⟩ = some (.int .i64 x) := (blk_cell HSF.out.2.2.2.1 0).trans rfl
   have c1_ : WF.cell? ⟨gs, 1, none⟩ = some (.int .i64 H) := (blk_cell HSF.out.2.2.2.1 1).trans rfl
   have c2_ : WF.cell? ⟨gs, 2, none⟩ = some (.slice Av ps.length cv) := (blk_cell HSF.out.2.2.2.1 2).trans rfl
   have d0_ : WF.cell? ⟨gr, 0, none⟩ = some (.int .i64 0) := (blk_cell HSF.out.2.2.2.2.1 0).trans rfl
   have d1_ : WF.cell? ⟨gr, 1, none⟩ = some (.int .i64 0) := (blk_cell HSF.out.2.2.2.2.1 1).trans rfl
   have d2_ : WF.cell? ⟨gr, 2, none⟩ = some (.slice none 0 0) := (blk_cell HSF.out.2.2.2.2.1 2).trans rfl
   have f0_ := blk_frozen HSF.out.2.2.2.2.1 0
   have f1_ := blk_frozen HSF.out.2.2.2.2.1 1
   have f2_ := blk_frozen HSF.out.2.2.2.2.1 2
   go_wp2
   have HF := StoW.fin HSF.out HOF.out (.int .i64 x) (.int .i64 H)
   refine bodyPost_ret (results_cell_row rfl _ _ gr 26 #[.int .i64 x, .int .i64 H, (.slice Av ps.length cv)] (0, 0) _ rfl (by exact HF.1) Try.underlying26 rfl (by kernel_rfl)) rfl ?_
   exact ⟨_, rfl, HF.2.1, HF.2.2.1, HF.2.2.2.1, HF.2.2.2.2⟩
  by_cases z1 : z = 1
  ·have zb0 : (z == 0) = false := beq_eq_false_iff_ne.mpr z0
   rw [if_neg z0] at hE
   have zb1 : (z == 1) = true := beq_iff_eq.2 z1
   rw [if_pos z1] at hE
   clear z0 z1
   obtain ⟨⟨x, i6, s6⟩, hX, hE⟩ := Option.bind_eq_some_iff.1 hE
   dsimp only at hE
   have HX := Aside0.mk hX
   clear hX
   simp only [Option.some.injEq, Prod.mk.injEq] at hE
   obtain ⟨rfl, rfl, rfl, rfl, rfl⟩ := hE
   go_upto_region 15 with (first | ((with_reducible refine gate_callee (f := 51) rfl ?_); refine goesL_ (some 34) rfl rfl Try.func51 (by kernel_rfl) rfl #[.pointer (some ⟨g, 0, none⟩), .int .i64 24] rfl gmp ?_; refine (spec_l1Cur_pick.calls g s0_0 i4 s4 24 z i5 s5 w0 _ HS.out.1 HS.out.2.1 A6.out).mono ?_; rintro e W7 ⟨rfl, hi, hb, hk⟩; refine ⟨_, rfl, ?_⟩; have HS7 := Aside0.mk (StoW.pick HS.out hi hb hk); have HO7 := Aside0.mk (StoW.rowPick HS.out HO.out hk); skip; clear hi hb hk) | ((with_reducible refine gate_dst (N := 44) rfl ?_); refine Kd.R_lit (Kd.int .i64) _ 3 ?hg (N := 44) ?hd (xs := ([0, 5, 4] : List Int)) (inner := [.int .i64 0, .int .i64 5, .int .i64 4]) (ok := fun _ => True) (okp := fun _ => True) ?hr ?hp (fun _ hk => hk) trivial (Below.refl _ _) (Nat.le_refl _) (by simp) ?_; (case hd => rfl); (case hg => rfl); (case hr => first | (go_simp; done) | (go_simp; rfl)); (case hp => exact (Reps.one (show Kd.M (Kd.int .i64) _ _ _ 0 [.int .i64 0] from rfl) (Reps.one (show Kd.M (Kd.int .i64) _ _ _ 5 [.int .i64 5] from rfl) (Reps.one (show Kd.M (Kd.int .i64) _ _ _ 4 [.int .i64 4] from rfl) (Reps.none _ _))))); intro v8 W8 h8 hb hg_ hnew_; obtain ⟨A8, c8, rfl⟩ := Kd.R_slice h8; have HS8 := Aside0.mk (StoW.grown HS7.out (hb.mono HS7.out.2.2.1.1) hg_ (by simp) (by simp) (by simp)); have HO8 := Aside0.mk (Kd.R_below HO7.out hb); have HQ8 := Aside0.mk (Kd.R_lower h8 HS7.out.2.2.1.1); skip; clear hb hg_ hnew_ h8) | ((with_reducible refine gate_callee (f := 25) rfl ?_); refine goesL_ (some 45) rfl rfl Try.func25 (by kernel_rfl) rfl #[.pointer (some ⟨g, 0, none⟩), .slice A8 ([0, 5, 4] : List Int).length c8] rfl gmp ?_; refine (spec_l1Cur_among.calls g s0_0 i5 s5 A8 c8 [0, 5, 4] x i6 s6 w0 _ HS8.out.1 HS8.out.2.1 (Kd.R_reads' HQ8.out).2.2 (Kd.R_reads' HQ8.out).2.1 (fun ad e _ hb => IsS52.own_ne HS8.out.1 HQ8.out (by decide) (by rw [e, ← hb]; rfl)) HX.out).mono ?_; rintro e W9 ⟨rfl, hi, hb, hk⟩; refine ⟨_, rfl, ?_⟩; have HS9 := Aside0.mk (StoW.pick HS8.out hi hb hk); have HO9 := Aside0.mk (StoW.rowPick HS8.out HO8.out hk); have hc9 := (blk_cell HS9.out.2.2.2.1 1); have hf9 := blk_frozen HS9.out.2.2.2.1 1; clear hi hb hk))
   have HSF := Aside0.mk (StoW.put HS9.out 1 (.int .i64 x) (cs' := #[.int .i64 R, .int .i64 x, .slice Av ps.length cv]) rfl)
   have HOF := Aside0.mk (StoW.rowPut HS9.out HO9.out 1 (.int .i64 x))
   clear hc9 hf9 HS7 HO7 HS8 HO8 HQ8 HS9 HO9
   generalize W9.setCell ⟨gs, 1, none⟩ (.int .i64 x) = WF at HSF HOF ⊢
   have c0_ : WF.cell? ⟨gs, 0, none⟩ = some (.int .i64 R) := (blk_cell HSF.out.2.2.2.1 0).trans rfl
   have c1_ : WF.cell? ⟨gs, 1, none⟩ = some (.int .i64 x) := (blk_cell HSF.out.2.2.2.1 1).trans rfl
   have c2_ : WF.cell? ⟨gs, 2, none⟩ = some (.slice Av ps.length cv) := (blk_cell HSF.out.2.2.2.1 2).trans rfl
   have d0_ : WF.cell? ⟨gr, 0, none⟩ = some (.int .i64 0) := (blk_cell HSF.out.2.2.2.2.1 0).trans rfl
   have d1_ : WF.cell? ⟨gr, 1, none⟩ = some (.int .i64 0) := (blk_cell HSF.out.2.2.2.2.1 1).trans rfl
   have d2_ : WF.cell? ⟨gr, 2, none⟩ = some (.slice none 0 0) := (blk_cell HSF.out.2.2.2.2.1 2).trans rfl
   have f0_ := blk_frozen HSF.out.2.2.2.2.1 0
   have f1_ := blk_frozen HSF.out.2.2.2.2.1 1
   have f2_ := blk_frozen HSF.out.2.2.2.2.1 2
   go_wp2
   have HF := StoW.fin HSF.out HOF.out (.int .i64 R) (.int .i64 x)
   refine bodyPost_ret (results_cell_row rfl _ _ gr 26 #[.int .i64 R, .int .i64 x, (.slice Av ps.length cv)] (0, 0) _ rfl (by exact HF.1) Try.underlying26 rfl (by kernel_rfl)) rfl ?_
   exact ⟨_, rfl, HF.2.1, HF.2.2.1, HF.2.2.2.1, HF.2.2.2.2⟩
  by_cases z2 : z = 2
  ·have zb0 : (z == 0) = false := beq_eq_false_iff_ne.mpr z0
   rw [if_neg z0] at hE
   have zb1 : (z == 1) = false := beq_eq_false_iff_ne.mpr z1
   rw [if_neg z1] at hE
   have zb2 : (z == 2) = true := beq_iff_eq.2 z2
   rw [if_pos z2] at hE
   clear z0 z1 z2
   obtain ⟨⟨x, i6, s6⟩, hX, hE⟩ := Option.bind_eq_some_iff.1 hE
   dsimp only at hE
   have HX := Aside0.mk hX
   clear hX
   by_cases hl : ps.length < 1000
   rotate_left
   ·rw [if_neg hl] at hE; exact absurd hE (by simp)
   rw [if_pos hl] at hE
   have HL := Aside0.mk hl
   clear hl
   obtain ⟨l', hl'⟩ : ∃ y, y = ps ++ [x] := ⟨_, rfl⟩
   rw [← hl'] at hE
   have HL' := Aside0.mk hl'
   clear hl'
   simp only [Option.some.injEq, Prod.mk.injEq] at hE
   obtain ⟨rfl, rfl, rfl, rfl, rfl⟩ := hE
   go_upto_region 12 with (((with_reducible refine gate_callee (f := 51) rfl ?_); refine goesL_ (some 34) rfl rfl Try.func51 (by kernel_rfl) rfl #[.pointer (some ⟨g, 0, none⟩), .int .i64 24] rfl gmp ?_; refine (spec_l1Cur_pick.calls g s0_0 i4 s4 24 z i5 s5 w0 _ HS.out.1 HS.out.2.1 A6.out).mono ?_; rintro e W7 ⟨rfl, hi, hb, hk⟩; refine ⟨_, rfl, ?_⟩; have HS7 := Aside0.mk (StoW.pick HS.out hi hb hk); have HO7 := Aside0.mk (StoW.rowPick HS.out HO.out hk); skip; clear hi hb hk))
   clear HS HO
   have HS := HS7
   have HO := HO7
   clear HS7 HO7
   have HS0 := Aside0.mk (StoW.drew HS.out)
   have HO0 := Aside0.mk (Kd.R_drew HO.out)
   have hcd : W7.drew.cell? ⟨gs, 2, none⟩ = some (.slice Av ps.length cv) := (blk_cell HS0.out.2.2.2.1 2).trans rfl
   clear HS HO
   refine start_ (n := 9) (S := fun w' => w'.cell? ⟨gs, 2, none⟩ = some (.slice Av ps.length cv)) (ds := [8]) #[false, false, false, false, false, false, false, false, false] (by kernel_rfl) rfl rfl hcd (fun hHeld => ?_)
   refine with_tabW spec_l1Cur_stowage.tab12 spec_l1Cur_stowage.bits12 (fun HT_ HW_ => ?_)
   generalize W7.drew = W0 at HS0 HO0 hcd hHeld ⊢
   have HC := Aside0.mk hcd
   clear hcd
   refine pure_ (i := 0) (N := some 49) (v := ?_) (a' := ?_) #[true, false, false, false, false, false, false, false, false] rfl rfl (any_of HT_.out (by kernel_rfl)) (fun _ _ _ h => h) (Or.inl ⟨by rfl, ?_⟩) ?_ ?_
   rotate_left
   ·intro w'
    go_simp
    with_reducible rfl
   rotate_left
   ·simp only [putS]
    rfl
   refine pure_ (i := 2) (N := some 51) (v := ?_) (a' := ?_) #[true, false, true, false, false, false, false, false, false] rfl rfl (any_of HT_.out (by kernel_rfl)) (fun _ _ _ h => h) (Or.inl ⟨by rfl, ?_⟩) ?_ ?_
   rotate_left
   ·intro w'
    go_simp
    with_reducible rfl
   rotate_left
   ·simp only [putS]
    rfl
   refine take_ (i := 1) (N := some 50) (v := ?_) (a' := ?_) #[true, true, true, false, false, false, false, false, false] rfl rfl (take_ofW HT_.out HW_.out (by kernel_rfl)) (fun _ _ _ h => h) (Or.inl ⟨by rfl, ?_⟩) hHeld ?_ ?_
   rotate_left
   ·rintro w' s0
    go_simp
    with_reducible rfl
   rotate_left
   ·simp only [putS]
    rfl
   refine one_ (i := 3) (N := some 52) #[true, true, true, true, false, false, false, false, false] rfl rfl (one_of HT_.out (by kernel_rfl)) (by decide) (fun K hK => ?_)
   refine Kd.R_lit_step (Kd.int .i64) _ 3 ?hg (N := 52) ?hd (xs := ([0, 10, 9] : List Int)) (inner := [.int .i64 0, .int .i64 10, .int .i64 9]) (ok := fun _ => True) (okp := fun _ => True) ?hr ?hp (fun _ hk => hk) trivial (Below.refl _ _) (Nat.le_refl _) (by simp) ?_; (case hd => rfl); (case hg => rfl); (case hr => first | (go_simp; done) | (go_simp; rfl)); (case hp => exact (Reps.one (show Kd.M (Kd.int .i64) _ _ _ 0 [.int .i64 0] from rfl) (Reps.one (show Kd.M (Kd.int .i64) _ _ _ 10 [.int .i64 10] from rfl) (Reps.one (show Kd.M (Kd.int .i64) _ _ _ 9 [.int .i64 9] from rfl) (Reps.none _ _)))))
   intro v8 W8 h8 hb hg_ hnew_
   have HS8 := Aside0.mk (StoW.grown HS0.out (hb.mono HS0.out.2.2.1.1) hg_ (by simp) (by simp) (by simp))
   have HO8 := Aside0.mk (Kd.R_below HO0.out hb)
   have HQ8 := Aside0.mk (Kd.R_lower h8 HS0.out.2.2.1.1)
   clear hb hg_ hnew_ h8 HS0 HO0
   refine hK.out _ _ ((blk_cell HS8.out.2.2.2.1 2).trans rfl) (fun hHeld => ?_)
   clear hK K
   refine norm_ (a' := ?_) ?_ ?_
   rotate_left
   ·show Act.put _ (some 52) _ = _
    simp only [putS]
    rfl
   obtain ⟨A8, c8, e8_⟩ := Kd.R_slice HQ8.out
   subst e8_
   refine one_ (i := 4) (N := some 53) #[true, true, true, true, true, false, false, false, false] rfl rfl (one_of HT_.out (by kernel_rfl)) (by decide) (fun K hK => ?_)
   refine goes_ Try.func25 (by kernel_rfl) rfl #[.pointer (some ⟨g, 0, none⟩), .slice A8 ([0, 10, 9] : List Int).length c8] (by rfl) rfl rfl gmp ?_
   refine (spec_l1Cur_among.calls g s0_0 i5 s5 A8 c8 [0, 10, 9] x i6 s6 w0 _ HS8.out.1 HS8.out.2.1 (Kd.R_reads' HQ8.out).2.2 (Kd.R_reads' HQ8.out).2.1 (fun ad e _ hb => IsS52.own_ne HS8.out.1 HQ8.out (by decide) (by rw [e, ← hb]; rfl)) HX.out).mono ?_
   rintro e W1 ⟨rfl, hi, hb, hk⟩
   refine ⟨_, rfl, ?_⟩
   have HS1 := Aside0.mk (StoW.pick HS8.out hi hb hk)
   have HO1 := Aside0.mk (StoW.rowPick HS8.out HO8.out hk)
   clear hi hb hk HS8 HO8 HQ8
   refine hK.out _ _ ((blk_cell HS1.out.2.2.2.1 2).trans rfl) (fun hHeld => ?_)
   clear hK K
   refine norm_ (a' := ?_) ?_ ?_
   rotate_left
   ·show Act.put _ (some 53) _ = _
    simp only [putS]
    rfl
   refine one_ (i := 5) (N := some 54) #[true, true, true, true, true, true, false, false, false] rfl rfl (one_of HT_.out (by kernel_rfl)) (by decide) (fun K hK => ?_)
   refine Kd.R_lit_step (Kd.int .i64) _ 3 ?hg (N := 54) ?hd (xs := ([x] : List Int)) (inner := [.int .i64 (x)]) (ok := fun _ => True) (okp := fun _ => True) ?hr ?hp (fun _ hk => hk) trivial (Below.refl _ _) (Nat.le_refl _) (by simp) ?_; (case hd => rfl); (case hg => rfl); (case hr => first | (go_simp; done) | (go_simp; rfl)); (case hp => exact (Reps.one (show Kd.M (Kd.int .i64) _ _ _ x [.int .i64 x] from rfl) (Reps.none _ _)))
   intro v5 W2 h5 hb hg hnew_
   have HS2 := Aside0.mk (StoW.grown HS1.out (hb.mono HS1.out.2.2.1.1) hg (by simp) (by simp) (by simp))
   have HO2 := Aside0.mk (Kd.R_below HO1.out hb)
   have H5 := Aside0.mk h5
   clear hb hg hnew_ h5 HS1 HO1
   refine hK.out _ _ ((blk_cell HS2.out.2.2.2.1 2).trans rfl) (fun hHeld => ?_)
   clear hK K
   refine norm_ (a' := ?_) ?_ ?_
   rotate_left
   ·show Act.put _ (some 54) _ = _
    simp only [putS]
    rfl
   obtain ⟨A5_, c5_, e5_⟩ := Kd.R_slice H5.out
   subst e5_
   refine one_ (i := 6) (N := some 55) #[true, true, true, true, true, true, true, false, false] rfl rfl (one_of HT_.out (by kernel_rfl)) (by decide) (fun K hK => ?_)
   refine Kd.R_append_rows_step (Kd.int .i64) (w0 := W2) w.heap.size (by rfl) (.tmp 50) (.tmp 54) 24 3 (.int .i64 0) 8 rfl Try.underlying24 info3 rfl (by decide) (by omega) (.slice Av ps.length cv) ps [x] _ _ _ (fun _ => True) (fun _ => False) rfl rfl ?aO ?aR (fun _ _ h => h) (fun _ h => h.elim) ?aF ?aB ?aS ?aL ?_
   (case aR => exact (Kd.R_reads' H5.out).2.2)
   (case aB => exact Below.refl _ _)
   (case aF => exact fun _ _ => trivial)
   (case aO => exact HO2.out)
   (case aS => exact HS2.out.2.2.1.1)
   (case aL => have := HL.out; simp; omega)
   intro v6 W3 ho hb hg hat
   rw [← HL'.out] at ho
   obtain ⟨A6_, c6_, rfl⟩ := Kd.R_slice ho
   have HS3 := Aside0.mk (StoW.grown HS2.out hb hg (IsS52.own_ne HS2.out.1 HO2.out (by decide)) (Kd.R_ne HO2.out HS2.out.2.2.2.1 (by decide)) (Kd.R_ne HO2.out HS2.out.2.2.2.2.1 (by decide)))
   have HO3 := Aside0.mk ho
   have hc3 : W3.cell? ⟨gs, 2, none⟩ = some (.slice Av ps.length cv) := (blk_cell HS3.out.2.2.2.1 2).trans rfl
   have hf3 := blk_frozen HS3.out.2.2.2.1 2
   clear hb hg hat ho HS2 HO2 H5 HC
   refine hK.out _ _ hc3 (fun hHeld => ?_)
   clear hK K
   refine norm_ (a' := ?_) ?_ ?_
   rotate_left
   ·show Act.put _ (some 55) _ = _
    simp only [putS]
    rfl
   refine pure_ (i := 7) (N := some 56) (v := ?_) (a' := ?_) #[true, true, true, true, true, true, true, true, false] rfl rfl (any_of HT_.out (by kernel_rfl)) (fun _ _ _ h => h) (Or.inl ⟨by rfl, ?_⟩) ?_ ?_
   rotate_left
   ·intro w'
    go_simp
    with_reducible rfl
   rotate_left
   ·simp only [putS]
    rfl
   refine last_ (i := 8) (N := none) #[true, true, true, true, true, true, true, true, true] rfl rfl (one_of HT_.out (by kernel_rfl)) (by decide) (fun K hK => ?_)
   refine skip_ (w1 := ?_) (by rfl) rfl ?_ ?_
   rotate_left
   ·go_simp
    rfl
   refine hK.out _ _ ?_
   clear hK K
   refine done_ (done_of HT_.out (by kernel_rfl)) ?_
   clear hc3 hf3 hHeld HT_ HW_
   have HS4 := Aside0.mk (StoW.put HS3.out 2 (.slice A6_ l'.length c6_) (cs' := #[.int .i64 R, .int .i64 H, .slice A6_ l'.length c6_]) rfl)
   have HO4 := Aside0.mk (StoW.rowPut HS3.out HO3.out 2 (.slice A6_ l'.length c6_))
   clear HS3 HO3
   generalize W3.setCell ⟨gs, 2, none⟩ (.slice A6_ l'.length c6_) = W4 at HS4 HO4 ⊢
   have c0_ : W4.cell? ⟨gs, 0, none⟩ = some (.int .i64 R) := (blk_cell HS4.out.2.2.2.1 0).trans rfl
   have c1_ : W4.cell? ⟨gs, 1, none⟩ = some (.int .i64 H) := (blk_cell HS4.out.2.2.2.1 1).trans rfl
   have c2_ : W4.cell? ⟨gs, 2, none⟩ = some (.slice A6_ l'.length c6_) := (blk_cell HS4.out.2.2.2.1 2).trans rfl
   have d0_ : W4.cell? ⟨gr, 0, none⟩ = some (.int .i64 0) := (blk_cell HS4.out.2.2.2.2.1 0).trans rfl
   have d1_ : W4.cell? ⟨gr, 1, none⟩ = some (.int .i64 0) := (blk_cell HS4.out.2.2.2.2.1 1).trans rfl
   have d2_ : W4.cell? ⟨gr, 2, none⟩ = some (.slice none 0 0) := (blk_cell HS4.out.2.2.2.2.1 2).trans rfl
   have f0_ := blk_frozen HS4.out.2.2.2.2.1 0
   have f1_ := blk_frozen HS4.out.2.2.2.2.1 1
   have f2_ := blk_frozen HS4.out.2.2.2.2.1 2
   go_wp2
   have HF := StoW.fin HS4.out HO4.out (.int .i64 R) (.int .i64 H)
   refine bodyPost_ret (results_cell_row rfl _ _ gr 26 #[.int .i64 R, .int .i64 H, (.slice A6_ l'.length c6_)] (0, 0) _ rfl (by exact HF.1) Try.underlying26 rfl (by kernel_rfl)) rfl ?_
   exact ⟨_, rfl, HF.2.1, HF.2.2.1, HF.2.2.2.1, HF.2.2.2.2⟩
  by_cases z3 : z = 3
  ·have zb0 : (z == 0) = false := beq_eq_false_iff_ne.mpr z0
   rw [if_neg z0] at hE
   have zb1 : (z == 1) = false := beq_eq_false_iff_ne.mpr z1
   rw [if_neg z1] at hE
   have zb2 : (z == 2) = false := beq_eq_false_iff_ne.mpr z2
   rw [if_neg z2] at hE
   have zb3 : (z == 3) = true := beq_iff_eq.2 z3
   rw [if_pos z3] at hE
   clear z0 z1 z2 z3
   obtain ⟨⟨x, i6, s6⟩, hX, hE⟩ := Option.bind_eq_some_iff.1 hE
   dsimp only at hE
   have HX := Aside0.mk hX
   clear hX
   by_cases hl : 0 ≤ x ∧ x < 2
   rotate_left
   ·rw [if_neg hl] at hE; exact absurd hE (by simp)
   rw [if_pos hl] at hE
   simp only [Option.some.injEq, Prod.mk.injEq] at hE
   obtain ⟨rfl, rfl, rfl, rfl, rfl⟩ := hE
   obtain rfl | rfl : x = 0 ∨ x = 1 := by omega
   ·clear hl
    go_upto_region 15 with (first | ((with_reducible refine gate_callee (f := 51) rfl ?_); refine goesL_ (some 34) rfl rfl Try.func51 (by kernel_rfl) rfl #[.pointer (some ⟨g, 0, none⟩), .int .i64 24] rfl gmp ?_; refine (spec_l1Cur_pick.calls g s0_0 i4 s4 24 z i5 s5 w0 _ HS.out.1 HS.out.2.1 A6.out).mono ?_; rintro e W7 ⟨rfl, hi, hb, hk⟩; refine ⟨_, rfl, ?_⟩; have HS7 := Aside0.mk (StoW.pick HS.out hi hb hk); have HO7 := Aside0.mk (StoW.rowPick HS.out HO.out hk); skip; clear hi hb hk) | ((with_reducible refine gate_dst (N := 59) rfl ?_); refine Kd.R_lit (Kd.int .i64) _ 3 ?hg (N := 59) ?hd (xs := ([1, 2, 3, 4, 1, 2, 3, 4] : List Int)) (inner := [.int .i64 1, .int .i64 2, .int .i64 3, .int .i64 4, .int .i64 1, .int .i64 2, .int .i64 3, .int .i64 4]) (ok := fun _ => True) (okp := fun _ => True) ?hr ?hp (fun _ hk => hk) trivial (Below.refl _ _) (Nat.le_refl _) (by simp) ?_; (case hd => rfl); (case hg => rfl); (case hr => first | (go_simp; done) | (go_simp; rfl)); (case hp => exact (Reps.one (show Kd.M (Kd.int .i64) _ _ _ 1 [.int .i64 1] from rfl) (Reps.one (show Kd.M (Kd.int .i64) _ _ _ 2 [.int .i64 2] from rfl) (Reps.one (show Kd.M (Kd.int .i64) _ _ _ 3 [.int .i64 3] from rfl) (Reps.one (show Kd.M (Kd.int .i64) _ _ _ 4 [.int .i64 4] from rfl) (Reps.one (show Kd.M (Kd.int .i64) _ _ _ 1 [.int .i64 1] from rfl) (Reps.one (show Kd.M (Kd.int .i64) _ _ _ 2 [.int .i64 2] from rfl) (Reps.one (show Kd.M (Kd.int .i64) _ _ _ 3 [.int .i64 3] from rfl) (Reps.one (show Kd.M (Kd.int .i64) _ _ _ 4 [.int .i64 4] from rfl) (Reps.none _ _)))))))))); intro v8 W8 h8 hb hg_ hnew_; obtain ⟨A8, c8, rfl⟩ := Kd.R_slice h8; have HS8 := Aside0.mk (StoW.grown HS7.out (hb.mono HS7.out.2.2.1.1) hg_ (by simp) (by simp) (by simp)); have HO8 := Aside0.mk (Kd.R_below HO7.out hb); have HQ8 := Aside0.mk (Kd.R_lower h8 HS7.out.2.2.1.1); have hc8 : 8 ≤ c8 := (Kd.R_reads' HQ8.out).2.1; have hd8 : decide (7 ≤ c8) = true := decide_eq_true (by omega); have hi8 : (7 : Int) ≤ (c8 : Int) := (by omega); clear hb hg_ hnew_ h8) | ((with_reducible refine gate_callee (f := 51) rfl ?_); refine goesL_ (some 61) rfl rfl Try.func51 (by kernel_rfl) rfl #[.pointer (some ⟨g, 0, none⟩), .int .i64 2] rfl gmp ?_; refine (spec_l1Cur_pick.calls g s0_0 i5 s5 2 0 i6 s6 w0 _ HS8.out.1 HS8.out.2.1 HX.out).mono ?_; rintro e W9 ⟨rfl, hi, hb, hk⟩; refine ⟨_, rfl, ?_⟩; have HS9 := Aside0.mk (StoW.pick HS8.out hi hb hk); have HQ9 := Aside0.mk (StoW.rowPick HS8.out HQ8.out hk); have hc9 := (blk_cell HS9.out.2.2.2.1 2); have hf9 := blk_frozen HS9.out.2.2.2.1 2; clear hi hb hk))
    have HO9 := Aside0.mk (Kd.R_take HQ9.out (m := 7) (by decide))
    have HSF := Aside0.mk (StoW.put HS9.out 2 (.slice A8 7 c8) (cs' := #[.int .i64 R, .int .i64 H, (.slice A8 7 c8)]) rfl)
    have HOF := Aside0.mk (StoW.rowPut HS9.out HO9.out 2 (.slice A8 7 c8))
    clear hc9 hf9 HS7 HO7 HS8 HO8 HQ8 HS9 HO9 HQ9
    generalize W9.setCell ⟨gs, 2, none⟩ (.slice A8 7 c8) = WF at HSF HOF ⊢
    have c0_ : WF.cell? ⟨gs, 0, none⟩ = some (.int .i64 R) := (blk_cell HSF.out.2.2.2.1 0).trans rfl
    have c1_ : WF.cell? ⟨gs, 1, none⟩ = some (.int .i64 H) := (blk_cell HSF.out.2.2.2.1 1).trans rfl
    have c2_ : WF.cell? ⟨gs, 2, none⟩ = some (.slice A8 7 c8) := (blk_cell HSF.out.2.2.2.1 2).trans rfl
    have d0_ : WF.cell? ⟨gr, 0, none⟩ = some (.int .i64 0) := (blk_cell HSF.out.2.2.2.2.1 0).trans rfl
    have d1_ : WF.cell? ⟨gr, 1, none⟩ = some (.int .i64 0) := (blk_cell HSF.out.2.2.2.2.1 1).trans rfl
    have d2_ : WF.cell? ⟨gr, 2, none⟩ = some (.slice none 0 0) := (blk_cell HSF.out.2.2.2.2.1 2).trans rfl
    have f0_ := blk_frozen HSF.out.2.2.2.2.1 0
    have f1_ := blk_frozen HSF.out.2.2.2.2.1 1
    have f2_ := blk_frozen HSF.out.2.2.2.2.1 2
    go_wp2
    have HF := StoW.fin HSF.out HOF.out (.int .i64 R) (.int .i64 H)
    refine bodyPost_ret (results_cell_row rfl _ _ gr 26 #[.int .i64 R, .int .i64 H, (.slice A8 7 c8)] (0, 0) _ rfl (by exact HF.1) Try.underlying26 rfl (by kernel_rfl)) rfl ?_
    exact ⟨_, rfl, HF.2.1, HF.2.2.1, HF.2.2.2.1, HF.2.2.2.2⟩
   clear hl
   go_upto_region 15 with (first | ((with_reducible refine gate_callee (f := 51) rfl ?_); refine goesL_ (some 34) rfl rfl Try.func51 (by kernel_rfl) rfl #[.pointer (some ⟨g, 0, none⟩), .int .i64 24] rfl gmp ?_; refine (spec_l1Cur_pick.calls g s0_0 i4 s4 24 z i5 s5 w0 _ HS.out.1 HS.out.2.1 A6.out).mono ?_; rintro e W7 ⟨rfl, hi, hb, hk⟩; refine ⟨_, rfl, ?_⟩; have HS7 := Aside0.mk (StoW.pick HS.out hi hb hk); have HO7 := Aside0.mk (StoW.rowPick HS.out HO.out hk); skip; clear hi hb hk) | ((with_reducible refine gate_dst (N := 59) rfl ?_); refine Kd.R_lit (Kd.int .i64) _ 3 ?hg (N := 59) ?hd (xs := ([1, 2, 3, 4, 1, 2, 3, 4] : List Int)) (inner := [.int .i64 1, .int .i64 2, .int .i64 3, .int .i64 4, .int .i64 1, .int .i64 2, .int .i64 3, .int .i64 4]) (ok := fun _ => True) (okp := fun _ => True) ?hr ?hp (fun _ hk => hk) trivial (Below.refl _ _) (Nat.le_refl _) (by simp) ?_; (case hd => rfl); (case hg => rfl); (case hr => first | (go_simp; done) | (go_simp; rfl)); (case hp => exact (Reps.one (show Kd.M (Kd.int .i64) _ _ _ 1 [.int .i64 1] from rfl) (Reps.one (show Kd.M (Kd.int .i64) _ _ _ 2 [.int .i64 2] from rfl) (Reps.one (show Kd.M (Kd.int .i64) _ _ _ 3 [.int .i64 3] from rfl) (Reps.one (show Kd.M (Kd.int .i64) _ _ _ 4 [.int .i64 4] from rfl) (Reps.one (show Kd.M (Kd.int .i64) _ _ _ 1 [.int .i64 1] from rfl) (Reps.one (show Kd.M (Kd.int .i64) _ _ _ 2 [.int .i64 2] from rfl) (Reps.one (show Kd.M (Kd.int .i64) _ _ _ 3 [.int .i64 3] from rfl) (Reps.one (show Kd.M (Kd.int .i64) _ _ _ 4 [.int .i64 4] from rfl) (Reps.none _ _)))))))))); intro v8 W8 h8 hb hg_ hnew_; obtain ⟨A8, c8, rfl⟩ := Kd.R_slice h8; have HS8 := Aside0.mk (StoW.grown HS7.out (hb.mono HS7.out.2.2.1.1) hg_ (by simp) (by simp) (by simp)); have HO8 := Aside0.mk (Kd.R_below HO7.out hb); have HQ8 := Aside0.mk (Kd.R_lower h8 HS7.out.2.2.1.1); have hc8 : 8 ≤ c8 := (Kd.R_reads' HQ8.out).2.1; have hd8 : decide (8 ≤ c8) = true := decide_eq_true (by omega); have hi8 : (8 : Int) ≤ (c8 : Int) := (by omega); clear hb hg_ hnew_ h8) | ((with_reducible refine gate_callee (f := 51) rfl ?_); refine goesL_ (some 61) rfl rfl Try.func51 (by kernel_rfl) rfl #[.pointer (some ⟨g, 0, none⟩), .int .i64 2] rfl gmp ?_; refine (spec_l1Cur_pick.calls g s0_0 i5 s5 2 1 i6 s6 w0 _ HS8.out.1 HS8.out.2.1 HX.out).mono ?_; rintro e W9 ⟨rfl, hi, hb, hk⟩; refine ⟨_, rfl, ?_⟩; have HS9 := Aside0.mk (StoW.pick HS8.out hi hb hk); have HQ9 := Aside0.mk (StoW.rowPick HS8.out HQ8.out hk); have hc9 := (blk_cell HS9.out.2.2.2.1 2); have hf9 := blk_frozen HS9.out.2.2.2.1 2; clear hi hb hk))
   have HO9 := Aside0.mk (Kd.R_take HQ9.out (m := 8) (by decide))
   have HSF := Aside0.mk (StoW.put HS9.out 2 (.slice A8 8 c8) (cs' := #[.int .i64 R, .int .i64 H, (.slice A8 8 c8)]) rfl)
   have HOF := Aside0.mk (StoW.rowPut HS9.out HO9.out 2 (.slice A8 8 c8))
   clear hc9 hf9 HS7 HO7 HS8 HO8 HQ8 HS9 HO9 HQ9
   generalize W9.setCell ⟨gs, 2, none⟩ (.slice A8 8 c8) = WF at HSF HOF ⊢
   have c0_ : WF.cell? ⟨gs, 0, none⟩ = some (.int .i64 R) := (blk_cell HSF.out.2.2.2.1 0).trans rfl
   have c1_ : WF.cell? ⟨gs, 1, none⟩ = some (.int .i64 H) := (blk_cell HSF.out.2.2.2.1 1).trans rfl
   have c2_ : WF.cell? ⟨gs, 2, none⟩ = some (.slice A8 8 c8) := (blk_cell HSF.out.2.2.2.1 2).trans rfl
   have d0_ : WF.cell? ⟨gr, 0, none⟩ = some (.int .i64 0) := (blk_cell HSF.out.2.2.2.2.1 0).trans rfl
   have d1_ : WF.cell? ⟨gr, 1, none⟩ = some (.int .i64 0) := (blk_cell HSF.out.2.2.2.2.1 1).trans rfl
   have d2_ : WF.cell? ⟨gr, 2, none⟩ = some (.slice none 0 0) := (blk_cell HSF.out.2.2.2.2.1 2).trans rfl
   have f0_ := blk_frozen HSF.out.2.2.2.2.1 0
   have f1_ := blk_frozen HSF.out.2.2.2.2.1 1
   have f2_ := blk_frozen HSF.out.2.2.2.2.1 2
   go_wp2
   have HF := StoW.fin HSF.out HOF.out (.int .i64 R) (.int .i64 H)
   refine bodyPost_ret (results_cell_row rfl _ _ gr 26 #[.int .i64 R, .int .i64 H, (.slice A8 8 c8)] (0, 0) _ rfl (by exact HF.1) Try.underlying26 rfl (by kernel_rfl)) rfl ?_
   exact ⟨_, rfl, HF.2.1, HF.2.2.1, HF.2.2.2.1, HF.2.2.2.2⟩
  have zb0 : (z == 0) = false := beq_eq_false_iff_ne.mpr z0
  rw [if_neg z0] at hE
  have zb1 : (z == 1) = false := beq_eq_false_iff_ne.mpr z1
  rw [if_neg z1] at hE
  have zb2 : (z == 2) = false := beq_eq_false_iff_ne.mpr z2
  rw [if_neg z2] at hE
  have zb3 : (z == 3) = false := beq_eq_false_iff_ne.mpr z3
  rw [if_neg z3] at hE
  clear z0 z1 z2 z3
  simp only [Option.some.injEq, Prod.mk.injEq] at hE
  obtain ⟨rfl, rfl, rfl, rfl, rfl⟩ := hE
  go_upto_region 15 with (((with_reducible refine gate_callee (f := 51) rfl ?_); refine goesL_ (some 34) rfl rfl Try.func51 (by kernel_rfl) rfl #[.pointer (some ⟨g, 0, none⟩), .int .i64 24] rfl gmp ?_; refine (spec_l1Cur_pick.calls g s0_0 i4 s4 24 z i5 s5 w0 _ HS.out.1 HS.out.2.1 A6.out).mono ?_; rintro e W7 ⟨rfl, hi, hb, hk⟩; refine ⟨_, rfl, ?_⟩; have HS7 := Aside0.mk (StoW.pick HS.out hi hb hk); have HO7 := Aside0.mk (StoW.rowPick HS.out HO.out hk); skip; clear hi hb hk))
  have c0_ : W7.cell? ⟨gs, 0, none⟩ = some (.int .i64 R) := (blk_cell HS7.out.2.2.2.1 0).trans rfl
  have c1_ : W7.cell? ⟨gs, 1, none⟩ = some (.int .i64 H) := (blk_cell HS7.out.2.2.2.1 1).trans rfl
  have c2_ : W7.cell? ⟨gs, 2, none⟩ = some (.slice Av ps.length cv) := (blk_cell HS7.out.2.2.2.1 2).trans rfl
  have d0_ : W7.cell? ⟨gr, 0, none⟩ = some (.int .i64 0) := (blk_cell HS7.out.2.2.2.2.1 0).trans rfl
  have d1_ : W7.cell? ⟨gr, 1, none⟩ = some (.int .i64 0) := (blk_cell HS7.out.2.2.2.2.1 1).trans rfl
  have d2_ : W7.cell? ⟨gr, 2, none⟩ = some (.slice none 0 0) := (blk_cell HS7.out.2.2.2.2.1 2).trans rfl
  have f0_ := blk_frozen HS7.out.2.2.2.2.1 0
  have f1_ := blk_frozen HS7.out.2.2.2.2.1 1
  have f2_ := blk_frozen HS7.out.2.2.2.2.1 2
  go_wp2
  have HF := StoW.fin HS7.out HO7.out (.int .i64 R) (.int .i64 H)
  refine bodyPost_ret (results_cell_row rfl _ _ gr 26 #[.int .i64 R, .int .i64 H, (.slice Av ps.length cv)] (0, 0) _ rfl (by exact HF.1) Try.underlying26 rfl (by kernel_rfl)) rfl ?_
  exact ⟨_, rfl, HF.2.1, HF.2.2.1, HF.2.2.2.1, HF.2.2.2.2⟩
 | succ m =>
  have hD := HD.out
  simp only [dwPorts] at hD
  obtain ⟨⟨b1, i1', s1'⟩, hB1, hD⟩ := Option.bind_eq_some_iff.1 hD
  dsimp only at hD
  by_cases hl : l.length < 1000
  rotate_left
  ·rw [if_neg hl] at hD
   exact absurd hD (by simp)
  rw [if_pos hl] at hD
  have B1 := Aside0.mk hB1
  have HL := Aside0.mk hl
  obtain ⟨l', hl'⟩ : ∃ x, x = l ++ [wrap64 (1 + b1)] := ⟨_, rfl⟩
  rw [← hl'] at hD
  have HD1 := Aside0.mk hD
  have HL' := Aside0.mk hl'
  clear hB1 hl hl' hD HD
  have ht : (0 : Int) < ((m + 1 : Nat) : Int) := by omega
  go_upto_region 5 with (fail)
  have HS0 := Aside0.mk (StoW.drew HS.out)
  have HO0 := Aside0.mk (Kd.R_drew HO.out)
  have hcd : wr.drew.cell? ⟨gs, 2, none⟩ = some v := (blk_cell HS0.out.2.2.2.1 2).trans rfl
  clear HS HO
  refine start_ (n := 9) (S := fun w' => w'.cell? ⟨gs, 2, none⟩ = some v) (ds := [8]) #[false, false, false, false, false, false, false, false, false] (by kernel_rfl) rfl rfl hcd (fun hHeld => ?_)
  refine with_tabW spec_l1Cur_stowage.tab5 spec_l1Cur_stowage.bits5 (fun HT_ HW_ => ?_)
  generalize wr.drew = W0 at HS0 HO0 hcd hHeld ⊢
  have HC := Aside0.mk hcd
  clear hcd
  refine pure_ (i := 0) (N := some 25) (v := ?_) (a' := ?_) #[true, false, false, false, false, false, false, false, false] rfl rfl (any_of HT_.out (by kernel_rfl)) (fun _ _ _ h => h) (Or.inl ⟨by rfl, ?_⟩) ?_ ?_
  rotate_left
  ·intro w'
   go_simp
   with_reducible rfl
  rotate_left
  ·simp only [putS]
   rfl
  refine pure_ (i := 2) (N := some 27) (v := ?_) (a' := ?_) #[true, false, true, false, false, false, false, false, false] rfl rfl (any_of HT_.out (by kernel_rfl)) (fun _ _ _ h => h) (Or.inl ⟨by rfl, ?_⟩) ?_ ?_
  rotate_left
  ·intro w'
   go_simp
   with_reducible rfl
  rotate_left
  ·simp only [putS]
   rfl
  refine take_ (i := 1) (N := some 26) (v := ?_) (a' := ?_) #[true, true, true, false, false, false, false, false, false] rfl rfl (take_ofW HT_.out HW_.out (by kernel_rfl)) (fun _ _ _ h => h) (Or.inl ⟨by rfl, ?_⟩) hHeld ?_ ?_
  rotate_left
  ·rintro w' s0
   go_simp
   with_reducible rfl
  rotate_left
  ·simp only [putS]
   rfl
  refine one_ (i := 3) (N := some 28) #[true, true, true, true, false, false, false, false, false] rfl rfl (one_of HT_.out (by kernel_rfl)) (by decide) (fun K hK => ?_)
  refine goes_ Try.func51 (by kernel_rfl) rfl #[.pointer (some ⟨g, 0, none⟩), .int .i64 4] (by rfl) rfl rfl gmp ?_
  refine (spec_l1Cur_pick.calls g s0_0 i s 4 b1 i1' s1' w0 _ HS0.out.1 HS0.out.2.1 B1.out).mono ?_
  rintro e W1 ⟨rfl, hi, hb, hk⟩
  refine ⟨_, rfl, ?_⟩
  have HS1 := Aside0.mk (StoW.pick HS0.out hi hb hk)
  have HO1 := Aside0.mk (StoW.rowPick HS0.out HO0.out hk)
  clear hi hb hk HS0 HO0
  refine hK.out _ _ ((blk_cell HS1.out.2.2.2.1 2).trans rfl) (fun hHeld => ?_)
  clear hK K
  refine norm_ (a' := ?_) ?_ ?_
  rotate_left
  ·show Act.put _ (some 28) _ = _
   simp only [putS]
   rfl
  refine pure_ (i := 4) (N := some 29) (v := ?_) (a' := ?_) #[true, true, true, true, true, false, false, false, false] rfl rfl (any_of HT_.out (by kernel_rfl)) (fun _ _ _ h => h) (Or.inl ⟨by rfl, ?_⟩) ?_ ?_
  rotate_left
  ·intro w'
   go_simp
   with_reducible rfl
  rotate_left
  ·simp only [putS]
   rfl
  refine one_ (i := 5) (N := some 30) #[true, true, true, true, true, true, false, false, false] rfl rfl (one_of HT_.out (by kernel_rfl)) (by decide) (fun K hK => ?_)
  refine Kd.R_lit_step (Kd.int .i64) _ 3 ?hg (N := 30) ?hd (xs := ([(wrap64 (1 + b1))] : List Int)) (inner := [.int .i64 ((wrap64 (1 + b1)))]) (ok := fun _ => True) (okp := fun _ => True) ?hr ?hp (fun _ hk => hk) trivial (Below.refl _ _) (Nat.le_refl _) (by simp) ?_; (case hd => rfl); (case hg => rfl); (case hr => first | (go_simp; done) | (go_simp; rfl)); (case hp => exact (Reps.one (show Kd.M (Kd.int .i64) _ _ _ (wrap64 (1 + b1)) [.int .i64 (wrap64 (1 + b1))] from rfl) (Reps.none _ _)))
  intro v5 W2 h5 hb hg hnew_
  have HS2 := Aside0.mk (StoW.grown HS1.out (hb.mono HS1.out.2.2.1.1) hg (by simp) (by simp) (by simp))
  have HO2 := Aside0.mk (Kd.R_below HO1.out hb)
  have H5 := Aside0.mk h5
  clear hb hg hnew_ h5 HS1 HO1
  refine hK.out _ _ ((blk_cell HS2.out.2.2.2.1 2).trans rfl) (fun hHeld => ?_)
  clear hK K
  refine norm_ (a' := ?_) ?_ ?_
  rotate_left
  ·show Act.put _ (some 30) _ = _
   simp only [putS]
   rfl
  obtain ⟨A5_, c5_, e5_⟩ := Kd.R_slice H5.out
  subst e5_
  refine one_ (i := 6) (N := some 31) #[true, true, true, true, true, true, true, false, false] rfl rfl (one_of HT_.out (by kernel_rfl)) (by decide) (fun K hK => ?_)
  refine Kd.R_append_rows_step (Kd.int .i64) (w0 := W2) w.heap.size (by rfl) (.tmp 26) (.tmp 30) 24 3 (.int .i64 0) 8 rfl Try.underlying24 info3 rfl (by decide) (by omega) v l [(wrap64 (1 + b1))] _ _ _ (fun _ => True) (fun _ => False) rfl rfl ?aO ?aR (fun _ _ h => h) (fun _ h => h.elim) ?aF ?aB ?aS ?aL ?_
  (case aR => exact (Kd.R_reads' H5.out).2.2)
  (case aB => exact Below.refl _ _)
  (case aF => exact fun _ _ => trivial)
  (case aO => exact HO2.out)
  (case aS => exact HS2.out.2.2.1.1)
  (case aL => have := HL.out; simp; omega)
  intro v6 W3 ho hb hg hat
  rw [← HL'.out] at ho
  obtain ⟨A6_, c6_, rfl⟩ := Kd.R_slice ho
  have HS3 := Aside0.mk (StoW.grown HS2.out hb hg (IsS52.own_ne HS2.out.1 HO2.out (by decide)) (Kd.R_ne HO2.out HS2.out.2.2.2.1 (by decide)) (Kd.R_ne HO2.out HS2.out.2.2.2.2.1 (by decide)))
  have HO3 := Aside0.mk ho
  have hc3 : W3.cell? ⟨gs, 2, none⟩ = some v := (blk_cell HS3.out.2.2.2.1 2).trans rfl
  have hf3 := blk_frozen HS3.out.2.2.2.1 2
  clear hb hg hat ho HS2 HO2 H5 HC
  refine hK.out _ _ hc3 (fun hHeld => ?_)
  clear hK K
  refine norm_ (a' := ?_) ?_ ?_
  rotate_left
  ·show Act.put _ (some 31) _ = _
   simp only [putS]
   rfl
  refine pure_ (i := 7) (N := some 32) (v := ?_) (a' := ?_) #[true, true, true, true, true, true, true, true, false] rfl rfl (any_of HT_.out (by kernel_rfl)) (fun _ _ _ h => h) (Or.inl ⟨by rfl, ?_⟩) ?_ ?_
  rotate_left
  ·intro w'
   go_simp
   with_reducible rfl
  rotate_left
  ·simp only [putS]
   rfl
  refine last_ (i := 8) (N := none) #[true, true, true, true, true, true, true, true, true] rfl rfl (one_of HT_.out (by kernel_rfl)) (by decide) (fun K hK => ?_)
  refine skip_ (w1 := ?_) (by rfl) rfl ?_ ?_
  rotate_left
  ·go_simp
   rfl
  refine hK.out _ _ ?_
  clear hK K
  refine done_ (done_of HT_.out (by kernel_rfl)) ?_
  clear hc3 hf3 hHeld HT_ HW_
  have HS4 := Aside0.mk (StoW.put HS3.out 2 (.slice A6_ l'.length c6_) (cs' := #[.int .i64 R, .int .i64 H, .slice A6_ l'.length c6_]) rfl)
  have HO4 := Aside0.mk (StoW.rowPut HS3.out HO3.out 2 (.slice A6_ l'.length c6_))
  clear HS3 HO3
  generalize W3.setCell ⟨gs, 2, none⟩ (.slice A6_ l'.length c6_) = W4 at HS4 HO4 ⊢
  go_wp2
  have hw_ : wrap64 (m : Int) = (m : Int) := Go.Proofs.Ytipahijdcgoemaa.U.wr (x := (m : Int)) (by omega) (by have := HM.out; omega)
  simp only [hw_]
  go_roundw
  case rel => exact ⟨m, i1', s1', l', .slice A6_ l'.length c6_, by first | rfl | go_num, ⟨by have := HM.out; omega⟩, HD1, HS4, HO4⟩
  case measure => first | (simp [intOf]; done) | (simp [intOf]; omega)
end Go.Proofs.Ytipahijdcgoemaa.P
