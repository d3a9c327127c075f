-- Written by a program of this session over the translation (a variant of the printer, see wip/gen); Lean checks it.
import Derived.Test.YtemildnlfjijmaaVC
import Derived.Test.YtemildnlfjijmaaPx0
import Derived.Test.YtemildnlfjijmaaPx1
import Derived.Test.YtemildnlfjijmaaPx3
import Derived.Test.YtemildnlfjijmaaPx6
namespace Go.Proofs.Ytemildnlfjijmaa.P
open Go.RowKit Go.Proofs.YtemildnlfjijmaaW.PrintWords Go.Proofs.YtemildnlfjijmaaW.PrintLast Go.Proofs.YtemildnlfjijmaaW.PrintMore
attribute [local go_sem] Go.Proofs.Ytemildnlfjijmaa.V.isSome_setCell max2_int min2_int max_two min_two max_three min_three max_four min_four
set_option linter.unusedVariables false
set_option linter.unusedSimpArgs false
/-! ### spec_l1Cur_filled: function 15 -/
/-- How much of the literal is taken. -/
def spec_l1Cur_filled.cutn (t : Int) : Nat := (wrap64 (4 + wrap64 (Int.tdiv t 11))).toNat
def spec_l1Cur_filled.among (c : List Int) (i s : Int) (xs : List Int) (t : Int) : Option (Int × Int × Int) := if 0 ≤ t ∧ t < 24 then spec_l1Cur_among.f c i s (xs.take (spec_l1Cur_filled.cutn t)) else none
theorem spec_l1Cur_filled.cut_le {t : Int} (h0 : 0 ≤ t) (h1 : t < 24) : 0 ≤ wrap64 (4 + wrap64 (Int.tdiv t 11)) ∧ wrap64 (4 + wrap64 (Int.tdiv t 11)) ≤ 6 := by
 have h : ∀ n : Fin 24, 0 ≤ wrap64 (4 + wrap64 (Int.tdiv (n.val : Int) 11)) ∧ wrap64 (4 + wrap64 (Int.tdiv (n.val : Int) 11)) ≤ 6 := by decide +kernel
 have e : t = ((⟨t.toNat, by omega⟩ : Fin 24).val : Int) := by show t = (t.toNat : Int); omega
 rw [e]
 exact h _
theorem spec_l1Cur_filled.among_f {c : List Int} {i s : Int} {xs : List Int} {t : Int} {r : Int × Int × Int} (h : spec_l1Cur_filled.among c i s xs t = some r) : (0 ≤ t ∧ t < 24) ∧ spec_l1Cur_among.f c i s (xs.take (spec_l1Cur_filled.cutn t)) = some r := by
 unfold spec_l1Cur_filled.among at h
 split at h
 case isTrue hc => exact ⟨hc, h⟩
 case isFalse => cases h
/-- What stands ahead of the end. -/
def spec_l1Cur_filled.W (w0 w : World) (g gs gr : Nat) (vT vL : Value) (y : List (List Int)) (l : List S71) (c : List Int) (i s : Int) (W : World) : Prop :=
 IsS47 w0 W g c i s ∧ Below w0.heap.size w0 W ∧ KeepBut w W g none ∧ W.heap[gs]? = some (.cells #[vT] 26 (0, 0)) ∧ W.heap[gr]? = some (.cells #[.slice none 0 0] 26 (0, 0)) ∧ Kd.S (Kd.slice 3 (Kd.int .i64)) 30 W w.heap.size (fun _ => True) vT y ∧ Kd.R k71 71 W w.heap.size (fun _ => True) vL l
theorem spec_l1Cur_filled.W.pick {w0 w W W1 : World} {g gs gr : Nat} {vT vL : Value} {y : List (List Int)} {l : List S71} {c : List Int} {i s i1 s1 : Int} (h : spec_l1Cur_filled.W w0 w g gs gr vT vL y l c i s W) (hi : IsS47 w0 W1 g c i1 s1) (hb : Below w0.heap.size w0 W1) (hk : KeepBut W W1 g none) : spec_l1Cur_filled.W w0 w g gs gr vT vL y l c i1 s1 W1 := by
 obtain ⟨h1, h2, h3, h4, h5, h6, h7⟩ := h
 exact ⟨hi, hb, h3.trans hk (.inl rfl), hk.blk h4 (Ne.symm (h1.ne_blk h4 (by decide))) (by simp), hk.blk h5 (Ne.symm (h1.ne_blk h5 (by decide))) (by simp), Kd.S_mono (Kd.S_keep (h1.apartS h6 (by decide)) hk (fun _ h => h.2)) (fun _ h => h.1), Kd.R_mono (Kd.R_keep (h1.apart h7 (by decide)) hk (fun _ h => h.2)) (fun _ h => h.1)⟩
theorem spec_l1Cur_filled.W.below {w0 w W W1 : World} {g gs gr : Nat} {vT vL : Value} {y : List (List Int)} {l : List S71} {c : List Int} {i s : Int} (h : spec_l1Cur_filled.W w0 w g gs gr vT vL y l c i s W) (hb : Below W.heap.size W W1) : spec_l1Cur_filled.W w0 w g gs gr vT vL y l c i s W1 := by
 obtain ⟨h1, h2, h3, h4, h5, h6, h7⟩ := h
 exact ⟨h1.below hb, below_step h2 hb, h3.trans (KeepBut.of_below hb g none) (.inl rfl), blk_below h4 hb, blk_below h5 hb, Kd.S_below h6 hb, Kd.R_below h7 hb⟩
theorem spec_l1Cur_filled.W.cell {w0 w W : World} {g gs gr : Nat} {vT vL : Value} {y : List (List Int)} {l : List S71} {c : List Int} {i s : Int} (h : spec_l1Cur_filled.W w0 w g gs gr vT vL y l c i s W) : W.cell? ⟨gs, 0, none⟩ = some vT := (blk_cell h.2.2.2.1 0).trans rfl
mutual
def spec_l1Cur_filled.l0 : Nat → List (S71) → Int → List Int → Int → Int → List (List Int) → Option ((List (List Int)) × (List (S71)) × Int × Int × Int)
 | 0, _, _, _, _, _, _ => none
 | k + 1, x5, x7, x1000, x1001, x1002, x362000 => if x7 > 0 then (if x362000.length < 5864062014805 then (spec_l1Cur_filled.l0 k x5 (wrap64 (x7 - 1)) x1000 x1001 x1002 (x362000 ++ [(([] : List Int))])) else (none)) else (spec_l1Cur_filled.l1 k x5 1 x1000 x1001 x1002 x362000)
def spec_l1Cur_filled.l1 : Nat → List (S71) → Int → List Int → Int → Int → List (List Int) → Option ((List (List Int)) × (List (S71)) × Int × Int × Int)
 | 0, _, _, _, _, _, _ => none
 | k + 1, x5, x8, x1000, x1001, x1002, x362000 => if x8 ≤ (x5.length : Int) then ((spec_l1Cur_pick.f x1000 x1001 x1002 (wrap64 ((x362000.length : Int) + 1))).bind fun bt371 => (if bt371.1 < (x362000.length : Int) then (if 0 ≤ bt371.1 then (if ((rd_L4 x362000 bt371.1).length : Int) < 4 then (if (rd_L4 x362000 bt371.1).length < 17592186044416 then (spec_l1Cur_filled.l1 k x5 (wrap64 (x8 + 1)) x1000 bt371.2.1 bt371.2.2 (x362000.set (bt371.1 : Int).toNat ((rd_L4 x362000 bt371.1) ++ [x8]))) else (none)) else (spec_l1Cur_filled.l1 k x5 (wrap64 (x8 + 1)) x1000 bt371.2.1 bt371.2.2 x362000)) else (none)) else (spec_l1Cur_filled.l1 k x5 (wrap64 (x8 + 1)) x1000 bt371.2.1 bt371.2.2 x362000))) else ((spec_l1Cur_pick.f x1000 x1001 x1002 40).bind fun bt380 => (if bt380.1 = 0 then (if 0 < (x362000.length : Int) then (if (rd_L4 x362000 0).length < 17592186044416 then (spec_l1Cur_filled.j2 k x5 x1000 bt380.2.1 bt380.2.2 (x362000.set (0 : Int).toNat ((rd_L4 x362000 0) ++ [wrap64 ((x5.length : Int) + 1)]))) else (none)) else (none)) else (if bt380.1 = 1 then ((spec_l1Cur_anyYard.f k x1000 bt380.2.1 bt380.2.2).bind fun bt388 => (spec_l1Cur_filled.j2 k x5 x1000 bt388.2.1 bt388.2.2 bt388.1)) else (spec_l1Cur_filled.j2 k x5 x1000 bt380.2.1 bt380.2.2 x362000))))
def spec_l1Cur_filled.j2 : Nat → List (S71) → List Int → Int → Int → List (List Int) → Option ((List (List Int)) × (List (S71)) × Int × Int × Int)
 | 0, _, _, _, _, _ => none
 | k + 1, x5, x1000, x1001, x1002, x362000 => (spec_l1Cur_pick.f x1000 x1001 x1002 24).bind fun bt396 => ((spec_l1Cur_filled.among x1000 bt396.2.1 bt396.2.2 (([0, 1, 2, 6, (-1), 7] : List Int)) bt396.1).bind fun bt399 => (some (x362000, x5, bt399.1, bt399.2.1, bt399.2.2)))
end
def spec_l1Cur_filled.f (k : Nat) (s0_0 : List Int) (s0_1 : Int) (s0_2 : Int) : Option ((List (List Int)) × (List (S71)) × Int × Int × Int) := (spec_l1Cur_containers.f k s0_0 s0_1 s0_2).bind fun bt356 => ((spec_l1Cur_pick.f s0_0 bt356.2.1 bt356.2.2 4).bind fun bt362 => (spec_l1Cur_filled.l0 k bt356.1 (wrap64 (1 + bt362.1)) s0_0 bt362.2.1 bt362.2.2 ([] : List (List Int))))
def spec_l1Cur_filled.T12 : Bool × List (List Nat × List Nat) := (true, [([], []), ([0], [0]), ([], []), ([], []), ([3], [3]), ([], []), ([4, 5], [4, 5]), ([6], [6]), ([], []), ([8], [8]), ([7, 9], [7, 9]), ([1, 2, 0, 1, 2, 3, 4, 5, 6, 7, 8, 9, 10], [1, 2]), ([11, 10, 10, 0, 1, 2, 3, 4, 5, 6, 7, 8, 9, 10], [10, 11])])
def spec_l1Cur_filled.B12 : List Nat := [0, 1, 0, 0, 8, 0, 56, 120, 0, 256, 1016, 2047, 4095]
theorem spec_l1Cur_filled.tab12 : rtab .any (opsOf Try.f15 12) = spec_l1Cur_filled.T12 := by kernel_rfl
theorem spec_l1Cur_filled.bits12 : waitsOk spec_l1Cur_filled.T12.2 spec_l1Cur_filled.B12 = true := by kernel_rfl
def spec_l1Cur_filled.T15 : Bool × List (List Nat × List Nat) := (true, [([], []), ([0], [0]), ([], []), ([2], [2]), ([3], [3]), ([4], [4]), ([], []), ([6], [6]), ([7], [7]), ([8], [8]), ([5, 9], [5, 9]), ([1, 0, 1, 2, 3, 4, 5, 6, 7, 8, 9, 10], [1]), ([11, 10, 10, 0, 1, 2, 3, 4, 5, 6, 7, 8, 9, 10], [10, 11])])
def spec_l1Cur_filled.B15 : List Nat := [0, 1, 0, 4, 12, 28, 0, 64, 192, 448, 1020, 2047, 4095]
theorem spec_l1Cur_filled.tab15 : rtab .any (opsOf Try.f15 15) = spec_l1Cur_filled.T15 := by kernel_rfl
theorem spec_l1Cur_filled.bits15 : waitsOk spec_l1Cur_filled.T15.2 spec_l1Cur_filled.B15 = true := by kernel_rfl
def spec_l1Cur_filled.T18 : Bool × List (List Nat × List Nat) := (true, [([], []), ([], []), ([], []), ([], []), ([], []), ([4], [4]), ([5], [5]), ([6], [6]), ([3, 7], [3, 7]), ([2, 8, 5], [2, 8]), ([0, 9, 0], [0]), ([1, 10, 0, 1, 10], [1]), ([9, 11, 0, 1, 2, 3, 4, 5, 6, 7, 8, 9, 10, 11], [9])])
def spec_l1Cur_filled.B18 : List Nat := [0, 0, 0, 0, 0, 16, 48, 112, 248, 508, 1021, 2047, 4095]
theorem spec_l1Cur_filled.tab18 : rtab .any (opsOf Try.f15 18) = spec_l1Cur_filled.T18 := by kernel_rfl
theorem spec_l1Cur_filled.bits18 : waitsOk spec_l1Cur_filled.T18.2 spec_l1Cur_filled.B18 = true := by kernel_rfl
set_option maxHeartbeats 8000000 in
set_option maxRecDepth 100000 in
theorem spec_l1Cur_filled.calls (k : Nat) (g : Nat) (s0_0 : List Int) (s0_1 : Int) (s0_2 : Int) (r1 : List (List Int)) (r2 : List (S71)) (r3 : Int) (r4 : Int) (r5 : Int) (w0 w : World) (hI : IsS47 w0 w g s0_0 s0_1 s0_2) (hB : Below w0.heap.size w0 w) (h : spec_l1Cur_filled.f k s0_0 s0_1 s0_2 = some (r1, r2, r3, r4, r5)) :
  Calls Try.prog 15 #[.pointer (some ⟨g, 0, none⟩)] w fun e w' => ∃ v0_ v1_ : Value, e = .returned (.tuple #[.agg #[v0_], v1_, .int .i64 r3]) ∧ Kd.S (Kd.slice 3 (Kd.int .i64)) 30 w' w.heap.size (fun _ => True) v0_ r1 ∧ Kd.R k71 71 w' w.heap.size (fun _ => True) v1_ r2 ∧ IsS47 w0 w' g s0_0 r4 r5 ∧ Below w0.heap.size w0 w' ∧ KeepBut w w' g none := by
 have hu26 := Try.underlying26
 have HI0 := Aside0.mk hI
 have HK := Aside0.mk (KeepBut.refl w g none)
 have HL := Aside0.mk hB.size
 clear hI
 have HW0 := Aside0.mk hB.size
 have HB := Aside0.mk hB
 clear hB
 have H : ((spec_l1Cur_containers.f k s0_0 s0_1 s0_2).bind fun bt356 => ((spec_l1Cur_pick.f s0_0 bt356.2.1 bt356.2.2 4).bind fun bt362 => (spec_l1Cur_filled.l0 k bt356.1 (wrap64 (1 + bt362.1)) s0_0 bt362.2.1 bt362.2.2 ([] : List (List Int))))) = some (r1, r2, r3, r4, r5) := h
 clear h
 obtain ⟨⟨t356, t359, t360⟩, A2, H⟩ := bnd H
 try dsimp only at H
 obtain ⟨⟨t362, t363, t364⟩, A3, H⟩ := bnd H
 try dsimp only at H
 have H' := Aside0.mk H
 clear H
 go_enter Try.func15, Try.ntmps15
 go_wp2_with (first | ((with_reducible refine gate_dst (N := 2) rfl ?_); (try (refine gate_guard (by rfl) ?_; dsimp only)); refine box_event ?hg (N := 2) ?hd (cs := #[.slice none 0 0]) (t := 26) ?hr ?_; (case hd | hg => rfl); (case hr => go_simp); intro gb355 hg w4 hbox hb; replace HB := Aside0.mk (below_step (belA HB) hb); have BK355 := Aside0.mk (hbox); have GW355 := gsk hg (kee HK); have GE355 := gswk HW0 hg (kee HK); replace HK := Aside0.mk (KeepBut.trans (kee HK) (KeepBut.of_below hb g none) (.inl rfl)); have NB0_355 := nll hg (IsS47.lt (IsS47.to HI0)); have NB355_0 := nlr hg (IsS47.lt (IsS47.to HI0)); replace HI0 := Aside0.mk (IsS47.below (IsS47.to HI0) hb); clear hb hbox hg) | ((with_reducible refine gate_callee (f := 33) rfl ?_); refine goesL_ (some 11) rfl rfl Try.func33 (by kernel_rfl) rfl #[.pointer (some ⟨g, 0, none⟩)] rfl gmp ?_; (with_reducible refine (spec_l1Cur_containers.calls k g s0_0 s0_1 s0_2 t356 t359 t360 w0 _ ?side1 ?side2 A2.out).mono ?_); (case side1 => exact IsS47.to HI0); (case side2 => exact belA HB); rintro e w5 ⟨v357, rfl, ho0, hi, hb, hk⟩; refine ⟨_, rfl, ?_⟩; replace BK355 := kbk hk BK355 NB355_0; have HO358 := Aside0.mk (Kd.R_lower ho0 (keep_size (w := w) (g := g) (row := none) (kee HK))); replace HK := Aside0.mk (KeepBut.trans (kee HK) hk (.inl rfl)); replace HB := Aside0.mk (hb); replace HI0 := Aside0.mk (hi); (try clear hb); (try clear hk); (try clear hi); (try clear ho0)) | ((with_reducible refine gate_dst (N := 6) rfl ?_); (try (refine gate_guard (by rfl) ?_; dsimp only)); refine box_event ?hg (N := 6) ?hd (cs := #[.slice none 0 0]) (t := 26) ?hr ?_; (case hd | hg => rfl); (case hr => go_simp); intro gb361 hg w6 hbox hb; replace HO358 := Aside0.mk (Kd.R_below (rdl HO358) hb); replace HB := Aside0.mk (below_step (belA HB) hb); have BK361 := Aside0.mk (hbox); have GW361 := gsk hg (kee HK); have GE361 := gswk HW0 hg (kee HK); replace HK := Aside0.mk (KeepBut.trans (kee HK) (KeepBut.of_below hb g none) (.inl rfl)); have NB355_361 := nbl hg BK355; have NB361_355 := nbr hg BK355; replace BK355 := bkb BK355 hb; have NB0_361 := nll hg (IsS47.lt (IsS47.to HI0)); have NB361_0 := nlr hg (IsS47.lt (IsS47.to HI0)); replace HI0 := Aside0.mk (IsS47.below (IsS47.to HI0) hb); clear hb hbox hg; have hnb7 := NB361_355.out; have hnc7 := NB355_361.out; have hnb8 := NB361_0.out; have hnc8 := NB0_361.out; have hcz9_0 := bc BK361 0; have hfz9_0 := blk_frozen BK361.out 0) | ((with_reducible refine gate_callee (f := 16) rfl ?_); refine goesL_ (some 14) rfl rfl Try.func16 (by kernel_rfl) rfl #[.pointer (some ⟨g, 0, none⟩), .int .i64 4] rfl gmp ?_; (with_reducible refine (spec_l1Cur_pick.calls g s0_0 t359 t360 4 t362 t363 t364 w0 _ ?side1 ?side2 A3.out).mono ?_); (case side1 => exact IsS47.to HI0); (case side2 => exact belA HB); rintro e w10 ⟨rfl, hi, hb, hk⟩; refine ⟨_, rfl, ?_⟩; replace BK355 := Aside0.mk (KeepBut.blk hk (g' := gb355) (o := .cells #[.slice none 0 0] 26 (0, 0)) (blk_far BK355.out NB355_361.out _) NB355_0.out (by simp)); replace HO358 := Aside0.mk (Kd.R_mono (Kd.R_keep (IsS47.apart (show IsS47 w0 _ g s0_0 t359 t360 from IsS47.to HI0) (by exact (Kd.R_mono (Kd.R_far (p := ⟨gb361, 0, none⟩) (Kd.R_types HO358.out BK361.out (by decide)) (fun _ hk => hk.2) (.slice none 0 0)) (fun _ h_ => h_.1))) (by decide)) hk (fun _ h => h.2)) (fun _ h => h.1)); replace BK361 := Aside0.mk (KeepBut.blk hk (g' := gb361) (o := .cells #[.slice none 0 0] 26 (0, 0)) (blk_put BK361.out 0 _ rfl) NB361_0.out (by simp)); replace HK := Aside0.mk (KeepBut.trans (kee HK) hk (.inl rfl)); replace HB := Aside0.mk (hb); replace HI0 := Aside0.mk (hi); clear hb hk hi))
 go_loopg [7] k (fun kq v7 w' => ∃ (x7_1 : Int) (x362000_1 : List (List Int)) (u362000 : Value), v7 = .int .i64 x7_1 ∧ Aside0 (spec_l1Cur_filled.l0 kq t356 x7_1 s0_0 t363 t364 x362000_1 = some (r1, r2, r3, r4, r5)) ∧ Aside0 (kq ≤ k) ∧ Aside0 (Kd.R k71 71 w' w.heap.size (fun _ => True) v357 t356) ∧ Aside0 (Kd.S (Kd.slice 3 (Kd.int .i64)) 30 w' w.heap.size (fun _ => True) u362000 x362000_1) ∧ Aside0 (w'.heap[gb355]? = some (.cells #[(.slice none 0 0)] 26 (0, 0))) ∧ Aside0 (w'.heap[gb361]? = some (.cells #[u362000] 26 (0, 0))) ∧ Aside0 (IsS47 w0 w' g s0_0 t363 t364) ∧ Aside0 (KeepBut w w' g none) ∧ Aside0 (Below w0.heap.size w0 w'))
 case atStart => exact ⟨(wrap64 (1 + t362)), (([] : List (List Int))), (.slice none 0 0), (by rfl ), H', ⟨Nat.le_refl _⟩, ⟨rdl HO358⟩, ⟨by exact Kd.S_nil _ _ _ _ _ ⟩, ⟨bkl BK355⟩, ⟨bkl BK361⟩, ⟨IsS47.to HI0⟩, ⟨kee HK⟩, ⟨belA HB⟩⟩
 clear H'
 try clear hcz9_0
 try clear hfz9_0
 obtain ⟨x7_1, x362000_1, u362000, rfl, HA, HK1, HO_5, HO_362000, BK355, BK361, HI0, HK, HB⟩ := hrel
 cases gk with
 | zero => exact absurd HA.out (by simp [spec_l1Cur_filled.l0])
 | succ k1 =>
  have H := HA.out
  clear HA
  simp only [spec_l1Cur_filled.l0] at H
  by_cases c11 : x7_1 > 0
  ·rw [if_pos c11] at H
   have c11b0 : decide (0 < x7_1) = true := decide_eq_true c11
   clear c11
   obtain ⟨y365, hy365⟩ : ∃ y_ : List Int, y_ = (([] : List Int)) := ⟨_, rfl⟩
   replace H : (if x362000_1.length < 5864062014805 then (spec_l1Cur_filled.l0 k1 t356 (wrap64 (x7_1 - 1)) s0_0 t363 t364 (x362000_1 ++ [y365])) else (none)) = some (r1, r2, r3, r4, r5) := by (rw [hy365]; with_reducible exact H) 
   have Ny365 := Aside0.mk hy365
   clear hy365
   by_cases c12 : x362000_1.length < 5864062014805
   rotate_left
   ·rw [if_neg c12] at H
    exact absurd H (by simp)
   rw [if_pos c12] at H
   have LMc12 := Aside0.mk c12
   clear c12
   obtain ⟨y368, hy368⟩ : ∃ y_ : List (List Int), y_ = (x362000_1 ++ [y365]) := ⟨_, rfl⟩
   replace H : (spec_l1Cur_filled.l0 k1 t356 (wrap64 (x7_1 - 1)) s0_0 t363 t364 y368) = some (r1, r2, r3, r4, r5) := by (rw [hy368]; with_reducible exact H) 
   have Ny368 := Aside0.mk hy368
   clear hy368
   have H' := Aside0.mk H
   clear H
   have hnb13 := NB361_355.out
   have hnc13 := NB355_361.out
   have hnb14 := NB361_0.out
   have hnc14 := NB0_361.out
   have hcz15_0 := bc BK361 0
   have hfz15_0 := blk_frozen BK361.out 0
   go_wp2_with (first | ((with_reducible refine gate_dst (N := 22) rfl ?_); (try (refine gate_guard (by rfl) ?_; dsimp only)); refine Kd.R_lit (Kd.int .i64) _ 3 ?hg (N := 22) ?hd (xs := ([] : List Int)) (inner := []) (ok := fun _ => True) (okp := fun _ => True) ?hr ?hp (fun _ hk => hk) trivial (Below.refl _ _) (Nat.le_refl _) (by simp) ?_; (case hd | hg => rfl); (case hr => go_simp); (case hp => exact (Reps.none _ _)); intro v366 w16 ho17 hb hg_ hnew_; clear hg_ hnew_; (rw [← Ny365.out] at ho17 ); replace HO_5 := Aside0.mk (Kd.R_below (rdl HO_5) hb); replace HO_362000 := Aside0.mk (Kd.S_elder' (sdl HO_362000) (Kd.R_base ho17) hb); have HO367 := Aside0.mk (Kd.R_lower ho17 (keep_size (w := w) (g := g) (row := none) (kee HK))); replace BK355 := bkb BK355 hb; replace BK361 := bkb BK361 hb; replace HI0 := Aside0.mk (IsS47.below (IsS47.to HI0) hb); replace HK := Aside0.mk (KeepBut.trans (kee HK) (KeepBut.of_below hb g none) (.inl rfl)); replace HB := Aside0.mk (below_step (belA HB) hb); clear hb ho17; obtain ⟨Ao19, co19, eo19⟩ := Kd.R_slice HO367.out; subst eo19) | ((with_reducible refine gate_builtin (b := .append) (xs := #[.tmp 21, .tmp 23]) rfl ?_); (try (refine gate_guard (by rfl) ?_; dsimp only)); at_builtin; refine Kd.S_append (Kd.slice 3 (Kd.int .i64)) w.heap.size rfl (.tmp 21) (.tmp 23) 24 30 (.slice none 0 0) 24 rfl Try.underlying24 info30 rfl (by decide) (by omega) u362000 x362000_1 y365 [.slice Ao19 y365.length co19] (fun _ => True) (fun k_ => some k_ = (.slice Ao19 y365.length co19 : Value).ownBlock) rfl rfl ?aP (fun k_ hk_ => ((Kd.R_mono (ok' := fun k_ => ((fun _ => True)) k_ ∧ some k_ ≠ (u362000 : Value).ownBlock) (Kd.R_apart' (HO367.out) (Kd.S_typed HO_362000.out) (by decide)) (fun k_ hk => ⟨trivial, hk.2⟩))).1 k_ hk_.symm) ?aF ?aO (Below.refl _ _) ?aS ?aL ?_; (case aP => exact Kd.M_row (Kd.R_mono (Kd.R_tight rfl (Kd.R_mono (ok' := fun k_ => ((fun _ => True)) k_ ∧ some k_ ≠ (u362000 : Value).ownBlock) (Kd.R_apart' (HO367.out) (Kd.S_typed HO_362000.out) (by decide)) (fun k_ hk => ⟨trivial, hk.2⟩))) (fun _ h_ => h_))); (case aF => exact (fun _ _ => trivial)); (case aO => exact (by exact Kd.S_mono HO_362000.out (fun k_ hk => ⟨trivial, fun e_ => hk.2 e_⟩))); (case aS => exact (keep_size (w := w) (g := g) (row := none) (kee HK))); (case aL => have := LMc12.out; omega); intro v369 w18 ho hb hg hat; rw [← Ny368.out] at ho; replace HO_5 := Aside0.mk (Kd.R_over' (rdl HO_5) (Kd.S_typed (sdl HO_362000)) (by decide) hg); replace BK355 := Aside0.mk (blk_grown (g := gb355) (o := .cells #[.slice none 0 0] 26 (0, 0)) (bkl BK355) hg (Kd.S_ne HO_362000.out BK355.out (by decide))); replace BK361 := Aside0.mk (blk_grown (g := gb361) (o := .cells #[u362000] 26 (0, 0)) (bkl BK361) hg (Kd.S_ne HO_362000.out BK361.out (by decide))); replace HI0 := Aside0.mk (IsS47.grown (IsS47.to HI0) hg (IsS47.own_neS HI0.out HO_362000.out (by decide))); replace HB := Aside0.mk (below_weaken (belA HB) HL.out hb); replace HK := Aside0.mk (KeepBut.trans (kee HK) (KeepBut.of_grown hg g) (Kd.S_base2 HO_362000.out)); have HO370 := Aside0.mk (ho); clear HO_362000; clear HO367; clear ho hb hg hat; obtain ⟨Ao20, co20, eo20⟩ := Kd.S_slice HO370.out; subst eo20; obtain ⟨_, _⟩ := bf1 BK361))
   go_roundg k1
   case measure => have := HK1.out; omega
   case rel => exact ⟨(wrap64 (x7_1 - 1)), (y368), (.slice Ao20 y368.length co20), (by rfl ), H', ⟨by have := HK1.out; omega⟩, ⟨by exact Kd.R_mono (Kd.R_far (p := ⟨gb361, 0, none⟩) (Kd.R_types HO_5.out BK361.out (by decide)) (fun _ hk => hk.2) (.slice Ao20 y368.length co20)) (fun _ hk => trivial)⟩, ⟨by exact Kd.S_mono (Kd.S_far (p := ⟨gb361, 0, none⟩) (Kd.S_types HO370.out BK361.out (by decide)) (fun _ hk => hk.2) (.slice Ao20 y368.length co20)) (fun _ hk => trivial)⟩, ⟨by refine blk_far ?_ NB355_361.out _; exact BK355.out⟩, ⟨by refine blk_put (cs := #[u362000]) ?_ 0 _ rfl; exact BK361.out⟩, ⟨IsS47.to HI0⟩, ⟨kee HK⟩, ⟨belA HB⟩⟩
  rw [if_neg c11] at H
  have c11b0 : decide (0 < x7_1) = false := decide_eq_false c11
  clear c11
  have H' := Aside0.mk H
  clear H
  go_wp2
  go_loopg [8] k1 (fun kq v8 w' => ∃ (x8_2 : Int) (x1001_2 : Int) (x1002_2 : Int) (x362000_2 : List (List Int)) (u362000 : Value), v8 = .int .i64 x8_2 ∧ Aside0 (spec_l1Cur_filled.l1 kq t356 x8_2 s0_0 x1001_2 x1002_2 x362000_2 = some (r1, r2, r3, r4, r5)) ∧ Aside0 (kq ≤ k1) ∧ Aside0 (Kd.R k71 71 w' w.heap.size (fun _ => True) v357 t356) ∧ Aside0 (Kd.S (Kd.slice 3 (Kd.int .i64)) 30 w' w.heap.size (fun _ => True) u362000 x362000_2) ∧ Aside0 (w'.heap[gb355]? = some (.cells #[(.slice none 0 0)] 26 (0, 0))) ∧ Aside0 (w'.heap[gb361]? = some (.cells #[u362000] 26 (0, 0))) ∧ Aside0 (IsS47 w0 w' g s0_0 x1001_2 x1002_2) ∧ Aside0 (KeepBut w w' g none) ∧ Aside0 (Below w0.heap.size w0 w'))
  case atStart => exact ⟨(1), (t363), (t364), (x362000_1), (u362000), (by rfl ), H', ⟨Nat.le_refl _⟩, ⟨rdl HO_5⟩, ⟨sdl HO_362000⟩, ⟨bkl BK355⟩, ⟨bkl BK361⟩, ⟨IsS47.to HI0⟩, ⟨kee HK⟩, ⟨belA HB⟩⟩
  clear H'
  try clear c11b0
  obtain ⟨x8_2, x1001_2, x1002_2, x362000_2, u362000, rfl, HA, HK2, HO_5, HO_362000, BK355, BK361, HI0, HK, HB⟩ := hrel
  cases gk with
  | zero => exact absurd HA.out (by simp [spec_l1Cur_filled.l1])
  | succ k2 =>
   have H := HA.out
   clear HA
   simp only [spec_l1Cur_filled.l1] at H
   by_cases c22 : x8_2 ≤ (t356.length : Int)
   ·rw [if_pos c22] at H
    have c22b0 : decide (x8_2 ≤ (t356.length : Int)) = true := decide_eq_true c22
    clear c22
    obtain ⟨⟨t371, t372, t373⟩, A23, H⟩ := bnd H
    try dsimp only at H
    by_cases c24 : t371 < (x362000_2.length : Int)
    rotate_left
    ·rw [if_neg c24] at H
     have c24b0 : decide (t371 < (x362000_2.length : Int)) = false := decide_eq_false c24
     clear c24
     have H' := Aside0.mk H
     clear H
     obtain ⟨Ao49, co49, eo49⟩ := Kd.R_slice HO_5.out
     subst eo49
     have hnb50 := NB361_355.out
     have hnc50 := NB355_361.out
     have hnb51 := NB361_0.out
     have hnc51 := NB0_361.out
     have hcz52_0 := bc BK361 0
     have hfz52_0 := blk_frozen BK361.out 0
     obtain ⟨Ao53, co53, eo53⟩ := Kd.S_slice HO_362000.out
     subst eo53
     go_wp2_with (first | ((with_reducible refine gate_callee (f := 16) rfl ?_); refine goesL_ (some 37) rfl rfl Try.func16 (by kernel_rfl) rfl #[.pointer (some ⟨g, 0, none⟩), .int .i64 (wrap64 ((x362000_2.length : Int) + 1))] rfl gmp ?_; (with_reducible refine (spec_l1Cur_pick.calls g s0_0 x1001_2 x1002_2 (wrap64 ((x362000_2.length : Int) + 1)) t371 t372 t373 w0 _ ?side1 ?side2 A23.out).mono ?_); (case side1 => exact IsS47.to HI0); (case side2 => exact belA HB); rintro e w54 ⟨rfl, hi, hb, hk⟩; refine ⟨_, rfl, ?_⟩; replace HO_5 := Aside0.mk (Kd.R_mono (Kd.R_keep (IsS47.apart (show IsS47 w0 _ g s0_0 x1001_2 x1002_2 from IsS47.to HI0) (rdl HO_5) (by decide)) hk (fun _ h => h.2)) (fun _ h => h.1)); replace HO_362000 := Aside0.mk (Kd.S_mono (Kd.S_keep (IsS47.apartS (show IsS47 w0 _ g s0_0 x1001_2 x1002_2 from IsS47.to HI0) (sdl HO_362000) (by decide)) hk (fun _ h => h.2)) (fun _ h => h.1)); replace BK355 := kbk hk BK355 NB355_0; replace BK361 := kbk hk BK361 NB361_0; replace HK := Aside0.mk (KeepBut.trans (kee HK) hk (.inl rfl)); replace HB := Aside0.mk (hb); replace HI0 := Aside0.mk (hi); clear hb hk hi; obtain ⟨_, _⟩ := bf1 BK361))
     go_roundg k2
     case measure => have := HK1.out; have := HK2.out; omega
     case rel => exact ⟨(wrap64 (x8_2 + 1)), (t372), (t373), (x362000_2), (.slice Ao53 x362000_2.length co53), (by rfl ), H', ⟨by have := HK1.out; have := HK2.out; omega⟩, ⟨rdl HO_5⟩, ⟨sdl HO_362000⟩, ⟨bkl BK355⟩, ⟨bkl BK361⟩, ⟨IsS47.to HI0⟩, ⟨kee HK⟩, ⟨belA HB⟩⟩
    rw [if_pos c24] at H
    have c24b0 : decide (t371 < (x362000_2.length : Int)) = true := decide_eq_true c24
    clear c24
    by_cases c25 : 0 ≤ t371
    rotate_left
    ·rw [if_neg c25] at H
     exact absurd H (by simp)
    rw [if_pos c25] at H
    have c25b0 : decide (0 ≤ t371) = true := decide_eq_true c25
    clear c25
    by_cases c26 : ((rd_L4 x362000_2 t371).length : Int) < 4
    rotate_left
    ·rw [if_neg c26] at H
     have c26b0 : decide (((rd_L4 x362000_2 t371).length : Int) < 4) = false := decide_eq_false c26
     have c26b1 : decide ((rd_L4 x362000_2 t371).length < 4) = false := decide_eq_false (by omega)
     clear c26
     have H' := Aside0.mk H
     clear H
     obtain ⟨Ao42, co42, eo42⟩ := Kd.R_slice HO_5.out
     subst eo42
     have hnb43 := NB361_355.out
     have hnc43 := NB355_361.out
     have hnb44 := NB361_0.out
     have hnc44 := NB0_361.out
     have hcz45_0 := bc BK361 0
     have hfz45_0 := blk_frozen BK361.out 0
     obtain ⟨Ao46, co46, eo46⟩ := Kd.S_slice HO_362000.out
     subst eo46
     go_wp2_with (first | ((with_reducible refine gate_callee (f := 16) rfl ?_); refine goesL_ (some 37) rfl rfl Try.func16 (by kernel_rfl) rfl #[.pointer (some ⟨g, 0, none⟩), .int .i64 (wrap64 ((x362000_2.length : Int) + 1))] rfl gmp ?_; (with_reducible refine (spec_l1Cur_pick.calls g s0_0 x1001_2 x1002_2 (wrap64 ((x362000_2.length : Int) + 1)) t371 t372 t373 w0 _ ?side1 ?side2 A23.out).mono ?_); (case side1 => exact IsS47.to HI0); (case side2 => exact belA HB); rintro e w47 ⟨rfl, hi, hb, hk⟩; refine ⟨_, rfl, ?_⟩; replace HO_5 := Aside0.mk (Kd.R_mono (Kd.R_keep (IsS47.apart (show IsS47 w0 _ g s0_0 x1001_2 x1002_2 from IsS47.to HI0) (rdl HO_5) (by decide)) hk (fun _ h => h.2)) (fun _ h => h.1)); replace HO_362000 := Aside0.mk (Kd.S_mono (Kd.S_keep (IsS47.apartS (show IsS47 w0 _ g s0_0 x1001_2 x1002_2 from IsS47.to HI0) (sdl HO_362000) (by decide)) hk (fun _ h => h.2)) (fun _ h => h.1)); replace BK355 := kbk hk BK355 NB355_0; replace BK361 := kbk hk BK361 NB361_0; replace HK := Aside0.mk (KeepBut.trans (kee HK) hk (.inl rfl)); replace HB := Aside0.mk (hb); replace HI0 := Aside0.mk (hi); clear hb hk hi; obtain ⟨_, _⟩ := bf1 BK361; have p374 : 0 ≤ (t371 : Int) := oda; have q374 : t371 < (x362000_2.length : Int) := oda; obtain ⟨ad374, A374_0, c374_0, e374, hx374_0, hl374_0, hi374_0⟩ := at_L4 (Kd.S_reads' HO_362000.out).2.2 t371 p374 q374; cases e374; obtain ⟨ce374, hce374, hMe374, hcc374⟩ := Kd.S_get HO_362000.out [] t371 p374 (by exact q374 ); obtain ⟨ve374_0, rfl, ge374_0⟩ := hMe374; have hv374_0 := hcc374 0 _ rfl; rw [Nat.add_zero, show ((Kd.slice 3 (Kd.int .i64))).sz = 1 from rfl, Nat.mul_one] at hv374_0; replace hv374_0 := Option.some.inj (hv374_0.symm.trans hx374_0); rw [hv374_0] at ge374_0; have HL374_0 := Aside0.mk (show Kd.R (Kd.int .i64) 3 _ _ _ _ (rd_L4 x362000_2 t371) from ge374_0); clear hv374_0 ge374_0; have HX374_0 := Aside0.mk hx374_0; clear hcc374 hce374; have HR374_0 := Aside0.mk hi374_0; have HC374_0 := Aside0.mk hl374_0; clear hi374_0 hl374_0; replace p374 := eq_true p374; replace q374 := eq_true q374))
     go_roundg k2
     case measure => have := HK1.out; have := HK2.out; omega
     case rel => exact ⟨(wrap64 (x8_2 + 1)), (t372), (t373), (x362000_2), (.slice (some ad374) x362000_2.length co46), (by rfl ), H', ⟨by have := HK1.out; have := HK2.out; omega⟩, ⟨rdl HO_5⟩, ⟨sdl HO_362000⟩, ⟨bkl BK355⟩, ⟨bkl BK361⟩, ⟨IsS47.to HI0⟩, ⟨kee HK⟩, ⟨belA HB⟩⟩
    rw [if_pos c26] at H
    have c26b0 : decide (((rd_L4 x362000_2 t371).length : Int) < 4) = true := decide_eq_true c26
    have c26b1 : decide ((rd_L4 x362000_2 t371).length < 4) = true := decide_eq_true (by omega)
    clear c26
    by_cases c27 : (rd_L4 x362000_2 t371).length < 17592186044416
    rotate_left
    ·rw [if_neg c27] at H
     exact absurd H (by simp)
    rw [if_pos c27] at H
    have LMc27 := Aside0.mk c27
    clear c27
    obtain ⟨y376, hy376⟩ : ∃ y_ : List Int, y_ = ((rd_L4 x362000_2 t371) ++ [x8_2]) := ⟨_, rfl⟩
    replace H : (spec_l1Cur_filled.l1 k2 t356 (wrap64 (x8_2 + 1)) s0_0 t372 t373 (x362000_2.set (t371 : Int).toNat y376)) = some (r1, r2, r3, r4, r5) := by (rw [hy376]; with_reducible exact H) 
    have Ny376 := Aside0.mk hy376
    clear hy376
    obtain ⟨y379, hy379⟩ : ∃ y_ : List (List Int), y_ = (x362000_2.set (t371 : Int).toNat y376) := ⟨_, rfl⟩
    replace H : (spec_l1Cur_filled.l1 k2 t356 (wrap64 (x8_2 + 1)) s0_0 t372 t373 y379) = some (r1, r2, r3, r4, r5) := by (rw [hy379]; with_reducible exact H) 
    have Ny379 := Aside0.mk hy379
    clear hy379
    have H' := Aside0.mk H
    clear H
    obtain ⟨Ao29, co29, eo29⟩ := Kd.R_slice HO_5.out
    subst eo29
    have hnb30 := NB361_355.out
    have hnc30 := NB355_361.out
    have hnb31 := NB361_0.out
    have hnc31 := NB0_361.out
    have hcz32_0 := bc BK361 0
    have hfz32_0 := blk_frozen BK361.out 0
    obtain ⟨Ao33, co33, eo33⟩ := Kd.S_slice HO_362000.out
    subst eo33
    try go_wp2_with (first | ((with_reducible refine gate_callee (f := 16) rfl ?_); refine goesL_ (some 37) rfl rfl Try.func16 (by kernel_rfl) rfl #[.pointer (some ⟨g, 0, none⟩), .int .i64 (wrap64 ((x362000_2.length : Int) + 1))] rfl gmp ?_; (with_reducible refine (spec_l1Cur_pick.calls g s0_0 x1001_2 x1002_2 (wrap64 ((x362000_2.length : Int) + 1)) t371 t372 t373 w0 _ ?side1 ?side2 A23.out).mono ?_); (case side1 => exact IsS47.to HI0); (case side2 => exact belA HB); rintro e w34 ⟨rfl, hi, hb, hk⟩; refine ⟨_, rfl, ?_⟩; replace HO_5 := Aside0.mk (Kd.R_mono (Kd.R_keep (IsS47.apart (show IsS47 w0 _ g s0_0 x1001_2 x1002_2 from IsS47.to HI0) (rdl HO_5) (by decide)) hk (fun _ h => h.2)) (fun _ h => h.1)); replace HO_362000 := Aside0.mk (Kd.S_mono (Kd.S_keep (IsS47.apartS (show IsS47 w0 _ g s0_0 x1001_2 x1002_2 from IsS47.to HI0) (sdl HO_362000) (by decide)) hk (fun _ h => h.2)) (fun _ h => h.1)); replace BK355 := kbk hk BK355 NB355_0; replace BK361 := kbk hk BK361 NB361_0; replace HK := Aside0.mk (KeepBut.trans (kee HK) hk (.inl rfl)); replace HB := Aside0.mk (hb); replace HI0 := Aside0.mk (hi); clear hb hk hi; obtain ⟨_, _⟩ := bf1 BK361; have p374 : 0 ≤ (t371 : Int) := oda; have q374 : t371 < (x362000_2.length : Int) := oda; obtain ⟨ad374, A374_0, c374_0, e374, hx374_0, hl374_0, hi374_0⟩ := at_L4 (Kd.S_reads' HO_362000.out).2.2 t371 p374 q374; cases e374; obtain ⟨ce374, hce374, hMe374, hcc374⟩ := Kd.S_get HO_362000.out [] t371 p374 (by exact q374 ); obtain ⟨ve374_0, rfl, ge374_0⟩ := hMe374; have hv374_0 := hcc374 0 _ rfl; rw [Nat.add_zero, show ((Kd.slice 3 (Kd.int .i64))).sz = 1 from rfl, Nat.mul_one] at hv374_0; replace hv374_0 := Option.some.inj (hv374_0.symm.trans hx374_0); rw [hv374_0] at ge374_0; have HL374_0 := Aside0.mk (show Kd.R (Kd.int .i64) 3 _ _ _ _ (rd_L4 x362000_2 t371) from ge374_0); clear hv374_0 ge374_0; have HX374_0 := Aside0.mk hx374_0; clear hcc374 hce374; have HR374_0 := Aside0.mk hi374_0; have HC374_0 := Aside0.mk hl374_0; clear hi374_0 hl374_0; replace p374 := eq_true p374; replace q374 := eq_true q374))
    have n0_ := Aside0.mk (Kd.R_drew HO_5.out)
    have n1_ := Aside0.mk (Kd.S_drew HO_362000.out)
    have n2_ := Aside0.mk (Kd.R_drew HL374_0.out)
    have n3_ := Aside0.mk (blk_drew BK355.out)
    have n4_ := Aside0.mk (blk_drew BK361.out)
    have n5_ := Aside0.mk (Kd.C_drew HR374_0.out)
    have n6_ := Aside0.mk (IsS47.drew HI0.out)
    have n7_ := Aside0.mk (keep_drew HK.out)
    have n8_ := Aside0.mk (below_drew1 HB.out)
    clear HO_5 HO_362000 HL374_0 BK355 BK361 HR374_0 HI0 HK HB
    have HO_5 := n0_
    have HO_362000 := n1_
    have HL374_0 := n2_
    have BK355 := n3_
    have BK361 := n4_
    have HR374_0 := n5_
    have HI0 := n6_
    have HK := n7_
    have HB := n8_
    clear n0_ n1_ n2_ n3_ n4_ n5_ n6_ n7_ n8_
    have p375 : 0 ≤ (t371 : Int) := oda
    have q375 : t371 < (x362000_2.length : Int) := oda
    obtain ⟨ad375, A375_0, c375_0, e375, hx375_0, hl375_0, hi375_0⟩ := at_L4 (Kd.S_reads' HO_362000.out).2.2 t371 p375 q375
    obtain rfl : ad374 = ad375 := (by injection e375)
    obtain ⟨ce375, hce375, hMe375, hcc375⟩ := Kd.S_get HO_362000.out [] t371 p375 (by exact q375 )
    obtain ⟨ve375_0, rfl, ge375_0⟩ := hMe375
    have hv375_0 := hcc375 0 _ rfl
    rw [Nat.add_zero, show ((Kd.slice 3 (Kd.int .i64))).sz = 1 from rfl, Nat.mul_one] at hv375_0
    replace hv375_0 := Option.some.inj (hv375_0.symm.trans hx375_0)
    rw [hv375_0] at ge375_0
    have HL375_0 := Aside0.mk (show Kd.R (Kd.int .i64) 3 _ _ _ _ (rd_L4 x362000_2 t371) from ge375_0)
    clear hv375_0 ge375_0
    have HX375_0 := Aside0.mk hx375_0
    clear hcc375 hce375
    have HR375_0 := Aside0.mk hi375_0
    have HC375_0 := Aside0.mk hl375_0
    clear hi375_0 hl375_0
    replace p375 := eq_true p375
    replace q375 := eq_true q375
    obtain ⟨go37, co37, eo37, gb37, gl37, cl37, HG37⟩ := Kd.S_form HO_362000.out (by have h_ : (t371 : Int) < ((x362000_2.length : Int) : Int) := oda; have h2_ : 0 ≤ (t371 : Int) := (oda); omega)
    (cases eo37 )
    have GB37 := Aside0.mk gb37
    have GG37 := Aside0.mk HG37
    clear gb37 gl37 HG37
    (simp only [add_plain] at hx374_0 )
    (simp only [add_plain] at hx375_0 )
    obtain ⟨oki37, ce37, hcl37, hM37, hcc37, _, _, hH37⟩ := Kd.S_elem HO_362000.out [] (t371 : Int) (oda) (by have h_ : (t371 : Int) < ((x362000_2.length : Int) : Int) := oda; exact h_ )
    obtain ⟨ve37_0, rfl, ge37_0⟩ := hM37
    have hv37 := hcc37 0 _ rfl
    have hX37 := HX375_0.out
    (try simp only [add_plain] at hX37)
    (try simp only [Nat.add_zero] at hv37)
    (try rw [show ((Kd.slice 3 (Kd.int .i64))).sz = 1 from rfl, Nat.mul_one] at hv37)
    replace hv37 := Option.some.inj (hv37.symm.trans hX37)
    subst hv37
    clear hX37 hcc37 hcl37
    have UU37 := Aside0.mk (show Kd.R (Kd.int .i64) 3 _ w.heap.size oki37 (.slice A375_0 (rd_L4 x362000_2 t371).length c375_0) (rd_L4 x362000_2 t371) from ge37_0)
    have HH37 := Aside0.mk hH37
    have HN37 := Aside0.mk (Kd.S_reads' HO_362000.out).1
    clear hH37 ge37_0
    refine start_ (n := 13) (S := fun w' => w'.cell? ⟨gb361, 0, none⟩ = some (.slice (some ⟨go37, 0, none⟩) x362000_2.length co33) ∧ w'.cell? ⟨go37, (t371).toNat, none⟩ = some (.slice A375_0 (rd_L4 x362000_2 t371).length c375_0)) (ds := [12]) #[false, false, false, false, false, false, false, false, false, false, false, false, false] (by kernel_rfl) rfl rfl ⟨(blk_cell BK361.out 0).trans rfl, hx375_0⟩ (fun hHeld => ?_); refine with_tabW spec_l1Cur_filled.tab12 spec_l1Cur_filled.bits12 (fun HT_ HW_ => ?_)
    generalize w34.drew = w36 at HO_5 HO_362000 HL374_0 BK355 BK361 HR374_0 HI0 HK HB GG37 HH37 HL375_0 HR375_0 HX375_0 UU37 hx374_0 hx375_0 hHeld ⊢
    refine pu 0 (some 52) (bx 13 1) (h := ?_)
    refine pu 2 (some 54) (bx 13 5) (h := ?_)
    refine pu 3 (some 55) (bx 13 13) (h := ?_)
    refine pu 5 (some 57) (bx 13 45) (h := ?_)
    refine pu 8 (some 60) (bx 13 301) (h := ?_)
    refine tk2 1 (some 53) (bx 13 303) (h := ?_)
    refine tk2 4 (some 56) (bx 13 319) (h := ?_)
    refine pu 6 (some 58) (bx 13 383) (h := ?_)
    refine tk2 7 (some 59) (bx 13 511) (h := ?_)
    refine on 9 (some 61) (bx 13 1023) (h := fun K hK => ?_)
    refine value_ (w1 := ?_) (v := ?_) (by rfl) rfl ?_ ?_
    rotate_left 2
    ·go_simp
     constructor
     ·rfl
     rfl
    refine hK.out _ _ ⟨(blk_cell (blk_alloc BK361.out _) 0).trans rfl, (World.cell?_alloc_lt _ _ _ (World.block_lt_of_cell? _ _ (hHeld.2))).trans (hHeld.2)⟩ (fun hHeld => ?_)
    clear hK K
    refine nm 61 (h := ?_)
    refine on 10 (some 62) (bx 13 2047) (h := fun K hK => ?_)
    refine Kd.R_append_step (Kd.int .i64) w.heap.size (by rfl) (.tmp 59) (.tmp 61) 30 3 (.int .i64 0) 8 rfl Try.underlying30 info3 rfl (by decide) (by omega) (.slice A375_0 (rd_L4 x362000_2 t371).length c375_0) (rd_L4 x362000_2 t371) x8_2 [.int .i64 x8_2] (fun k_ => oki37 k_ ∨ ((fun _ => True)) k_ ∧ w36.heap.size ≤ k_) (fun _ => False) rfl rfl ?aP (fun _ hk => hk.elim) ?aF ?aO (Below.refl _ _) ?aS ?aL ?_
    (case aP => exact rfl)
    (case aF => exact (fun k_ hk => .inr ⟨trivial, hk⟩))
    (case aO => exact (by exact Kd.R_mono UU37.out (fun _ hk => .inl hk)))
    (case aS => exact (keep_size (w := w) (g := g) (row := none) (kee HK)))
    (case aL => have := LMc27.out; omega)
    intro v377 w38 ho hb hg hat
    (have HS1_ := cell_grown hg (cell_unalloc (hHeld.2) (by exact Kd.S_lt HO_362000.out _ rfl)) (by exact (fun e_ => ((HL375_0.out.1 _ e_.symm).2) rfl)))
    rw [← Ny376.out] at ho
    have n0_ := Aside0.mk (Kd.R_over' (v := (.slice A375_0 (rd_L4 x362000_2 t371).length c375_0)) (rdl HO_5) (Kd.R_typed HL375_0.out) (by decide) hg)
    have n1_ := Aside0.mk (blk_grown (g := gb355) (o := .cells #[.slice none 0 0] 26 (0, 0)) (bkl BK355) hg (Kd.R_ne HL375_0.out BK355.out (by decide)))
    have n2_ := Aside0.mk (blk_grown (g := gb361) (o := .cells #[.slice (some ⟨go37, 0, none⟩) x362000_2.length co33] 26 (0, 0)) (bkl BK361) hg (Kd.R_ne HL375_0.out BK361.out (by decide)))
    have n3_ := Aside0.mk (IsS47.grown (IsS47.to HI0) hg (IsS47.own_ne HI0.out HL375_0.out (by decide)))
    have n4_ := Aside0.mk (below_weaken (belA HB) HL.out hb)
    have n5_ := Aside0.mk (KeepBut.trans (kee HK) (KeepBut.of_grown hg g) (Kd.R_base2 HL375_0.out))
    have n6_ := Aside0.mk (Kd.H_grown (Kd.H_widen (by repeat (exact HH37.out ))) hg (fun k_ e_ => .inl (UU37.out.1 k_ e_)))
    have n7_ := Aside0.mk (ho)
    clear HO_5 BK355 BK361 HI0 HB HK HH37 HO_362000 UU37 HL374_0 HL375_0
    have HO_5 := n0_
    have BK355 := n1_
    have BK361 := n2_
    have HI0 := n3_
    have HB := n4_
    have HK := n5_
    have HH37 := n6_
    have HO378 := n7_
    clear n0_ n1_ n2_ n3_ n4_ n5_ n6_ n7_ ho hb hg hat
    have p28 : 0 ≤ (t371 : Int) := oda
    have q28 : (t371 : Int) < ((x362000_2.length : Int) : Int) := oda
    replace p28 := eq_true p28
    replace q28 := eq_true q28
    obtain ⟨Ao41, co41, eo41⟩ := Kd.R_slice HO378.out
    (subst eo41 )
    obtain ⟨_, _, hraw39, _, _, hcc39, _⟩ := Kd.H_raw HH37.out (oda) (by have h_ : (t371 : Int) < ((x362000_2.length : Int) : Int) := oda; exact h_ )
    obtain ⟨_, hfr39⟩ := Kd.H_at HH37.out (oda) (by have h_ : (t371 : Int) < ((x362000_2.length : Int) : Int) := oda; exact h_ )
    have hx39_0 := hcc39 0 _ rfl
    have hf39_0 := hfr39 0
    (try simp only [Nat.add_zero] at hx39_0 hf39_0)
    (try rw [show ((Kd.slice 3 (Kd.int .i64))).sz = 1 from rfl, Nat.mul_one] at hx39_0)
    (try rw [show ((Kd.slice 3 (Kd.int .i64))).sz = 1 from rfl, Nat.mul_one] at hf39_0)
    have HP39 := Kd.S_seg0 HH37.out (oda) (by have h_ : (t371 : Int) < ((x362000_2.length : Int) : Int) := oda; exact h_ ) (seg := [.slice Ao41 y376.length co41]) (j := 0) (show 1 ≤ 1 from by decide) (x' := y376) (Kd.M_row HO378.out) (fun _ hk => hk)
    (try simp only [show ((Kd.slice 3 (Kd.int .i64))).sz = 1 from rfl, Nat.mul_one, Nat.add_zero] at HP39)
    clear hcc39 hfr39
    have HN0_go37 := Aside0.mk (show g ≠ go37 from by have h_ := IsS47.own_ne HI0.out hraw39 (by decide); intro e_; exact h_ (by rw [e_]; rfl))
    have HNB355_go37 := Aside0.mk (show gb355 ≠ go37 from by have h_ := Kd.R_ne hraw39 BK355.out (by decide); intro e_; exact h_ (by rw [e_]; rfl))
    have HNB361_go37 := Aside0.mk (show gb361 ≠ go37 from by have h_ := Kd.R_ne hraw39 BK361.out (by decide); intro e_; exact h_ (by rw [e_]; rfl))
    have HS39 := HP39.1
    rw [← Ny379.out] at HS39
    have HQ39 := Aside0.mk HS39
    obtain ⟨_, hgg39⟩ := Kd.R_typed hraw39 go37 rfl
    have GG39_ := Aside0.mk hgg39
    clear HP39 HS39 hgg39
    refine hK.out _ _ ⟨(blk_cell BK361.out 0).trans rfl, HS1_⟩ (fun hHeld => ?_)
    clear hK K
    refine nm 62 (h := ?_)
    refine pu 11 (some 63) (bx 13 4095) (h := ?_)
    refine last_ (i := 12) (N := none) #[true, true, true, true, true, true, true, true, true, true, true, true, true] rfl rfl (one_of HT_.out (by kernel_rfl)) (by decide) (fun K hK => ?_)
    refine skip_ (w1 := ?_) (by rfl) rfl ?_ ?_
    rotate_left
    ·go_simp
     rfl
    refine hK.out _ _ ?_
    clear hK K
    refine done_ (done_of HT_.out (by kernel_rfl)) ?_
    try go_wp2
    go_roundg k2
    case measure => have := HK1.out; have := HK2.out; omega
    case rel => exact ⟨(wrap64 (x8_2 + 1)), (t372), (t373), (y379), (.slice (some ⟨go37, 0, none⟩) x362000_2.length co33), (by rfl ), H', ⟨by have := HK1.out; have := HK2.out; omega⟩, ⟨by exact Kd.R_mono (Kd.R_far (p := ⟨go37, (t371 : Int).toNat, none⟩) (Kd.R_types HO_5.out GG39_.out (by decide)) (fun _ hk => hk.2) (.slice Ao41 y376.length co41)) (fun _ hk => trivial)⟩, ⟨sdl HQ39⟩, ⟨by refine blk_far ?_ HNB355_go37.out _; exact BK355.out⟩, ⟨by refine blk_far ?_ HNB361_go37.out _; exact BK361.out⟩, ⟨IsS47.to HI0⟩, ⟨kee HK⟩, ⟨by repeat ((with_reducible first | exact HB.out | refine below_set ?_ (Nat.le_trans HL.out GB37.out) ) )⟩⟩
   rw [if_neg c22] at H
   have c22b0 : decide (x8_2 ≤ (t356.length : Int)) = false := decide_eq_false c22
   clear c22
   obtain ⟨⟨t380, t381, t382⟩, A56, H⟩ := bnd H
   try dsimp only at H
   have HC57 := Aside0.mk H
   clear H
   obtain ⟨Ao58, co58, eo58⟩ := Kd.R_slice HO_5.out
   subst eo58
   go_upto_block 4 with (first | ((with_reducible refine gate_callee (f := 16) rfl ?_); refine goesL_ (some 65) rfl rfl Try.func16 (by kernel_rfl) rfl #[.pointer (some ⟨g, 0, none⟩), .int .i64 40] rfl gmp ?_; (with_reducible refine (spec_l1Cur_pick.calls g s0_0 x1001_2 x1002_2 40 t380 t381 t382 w0 _ ?side1 ?side2 A56.out).mono ?_); (case side1 => exact IsS47.to HI0); (case side2 => exact belA HB); rintro e w59 ⟨rfl, hi, hb, hk⟩; refine ⟨_, rfl, ?_⟩; replace HO_5 := Aside0.mk (Kd.R_mono (Kd.R_keep (IsS47.apart (show IsS47 w0 _ g s0_0 x1001_2 x1002_2 from IsS47.to HI0) (rdl HO_5) (by decide)) hk (fun _ h => h.2)) (fun _ h => h.1)); replace HO_362000 := Aside0.mk (Kd.S_mono (Kd.S_keep (IsS47.apartS (show IsS47 w0 _ g s0_0 x1001_2 x1002_2 from IsS47.to HI0) (sdl HO_362000) (by decide)) hk (fun _ h => h.2)) (fun _ h => h.1)); replace BK355 := kbk hk BK355 NB355_0; replace BK361 := kbk hk BK361 NB361_0; replace HK := Aside0.mk (KeepBut.trans (kee HK) hk (.inl rfl)); replace HB := Aside0.mk (hb); replace HI0 := Aside0.mk (hi); clear hb hk hi))
   (try simp only [Act.put, List.setIfInBounds_toArray, List.set_cons_zero, List.set_cons_succ])
   go_cut [] (fun wc => ∃ (kq : Nat) (x1001_56 : Int) (x1002_56 : Int) (x362000_56 : List (List Int)) (u362000 : Value), Aside0 (spec_l1Cur_filled.j2 kq t356 s0_0 x1001_56 x1002_56 x362000_56 = some (r1, r2, r3, r4, r5)) ∧ Aside0 (kq ≤ k2) ∧ Aside0 (Kd.R k71 71 wc w.heap.size (fun _ => True) (.slice Ao58 t356.length co58) t356) ∧ Aside0 (Kd.S (Kd.slice 3 (Kd.int .i64)) 30 wc w.heap.size (fun _ => True) u362000 x362000_56) ∧ Aside0 (wc.heap[gb355]? = some (.cells #[(.slice none 0 0)] 26 (0, 0))) ∧ Aside0 (wc.heap[gb361]? = some (.cells #[u362000] 26 (0, 0))) ∧ Aside0 (IsS47 w0 wc g s0_0 x1001_56 x1002_56) ∧ Aside0 (KeepBut w wc g none) ∧ Aside0 (Below w0.heap.size w0 wc))
   case first =>
    have H := HC57.out
    clear HC57
    by_cases c60 : t380 = 0
    rotate_left
    ·rw [if_neg c60] at H
     have c60b0 : (t380 == 0) = false := beq_eq_false_iff_ne.mpr c60
     have c60b1 : (t380 != 0) = true := bne_iff_ne.mpr c60
     by_cases c71 : t380 = 1
     rotate_left
     ·rw [if_neg c71] at H
      have c71b0 : (t380 == 1) = false := beq_eq_false_iff_ne.mpr c71
      have c71b1 : (t380 != 1) = true := bne_iff_ne.mpr c71
      have H' := Aside0.mk H
      clear H
      go_wp2
      go_meet
      case rel => exact ⟨_, (t381), (t382), (x362000_2), (u362000), H', ⟨by have := HK1.out; have := HK2.out; omega ⟩, ⟨rdl HO_5⟩, ⟨sdl HO_362000⟩, ⟨bkl BK355⟩, ⟨bkl BK361⟩, ⟨IsS47.to HI0⟩, ⟨kee HK⟩, ⟨belA HB⟩⟩
     rw [if_pos c71] at H
     have c71b0 : (t380 == 1) = true := beq_iff_eq.mpr c71
     have c71b1 : (t380 != 1) = false := bne_eq_false_iff_eq.mpr c71
     clear c71
     obtain ⟨⟨t388, t391, t392⟩, A72, H⟩ := bnd H
     try dsimp only at H
     have H' := Aside0.mk H
     clear H
     go_wp2_with (first | ((with_reducible refine gate_callee (f := 34) rfl ?_); refine goesL_ (some 83) rfl rfl Try.func34 (by kernel_rfl) rfl #[.pointer (some ⟨g, 0, none⟩)] rfl gmp ?_; (with_reducible refine (spec_l1Cur_anyYard.calls k2 g s0_0 t381 t382 t388 t391 t392 w0 _ ?side1 ?side2 A72.out).mono ?_); (case side1 => exact IsS47.to HI0); (case side2 => exact belA HB); rintro e w73 ⟨v389, rfl, ho0, hi, hb, hk⟩; refine ⟨_, rfl, ?_⟩; replace HO_5 := Aside0.mk (Kd.R_mono (Kd.R_keep (IsS47.apart (show IsS47 w0 _ g s0_0 t381 t382 from IsS47.to HI0) (rdl HO_5) (by decide)) hk (fun _ h => h.2)) (fun _ h => h.1)); replace BK355 := kbk hk BK355 NB355_0; replace BK361 := kbk hk BK361 NB361_0; have HO390 := Aside0.mk (Kd.S_lower (Kd.S_new' ho0 (Kd.S_lt (sdl HO_362000))) (keep_size (w := w) (g := g) (row := none) (kee HK))); replace HO_362000 := Aside0.mk (Kd.S_mono (Kd.S_told (Kd.S_oldK (IsS47.apartS (show IsS47 w0 _ g s0_0 t381 t382 from IsS47.to HI0) (sdl HO_362000) (by decide)) hk) (Kd.S_base ho0)) (fun _ h_ => h_.1)); replace HK := Aside0.mk (KeepBut.trans (kee HK) hk (.inl rfl)); replace HB := Aside0.mk (hb); replace HI0 := Aside0.mk (hi); (try clear hb); (try clear hk); (try clear hi); (try clear ho0); obtain ⟨Ao74, co74, eo74⟩ := Kd.S_slice HO390.out; subst eo74; have hnb75 := NB361_355.out; have hnc75 := NB355_361.out; have hnb76 := NB361_0.out; have hnc76 := NB0_361.out; obtain ⟨_, _⟩ := bf1 BK361))
     go_meet
     case rel => exact ⟨_, (t391), (t392), (t388), (.slice Ao74 t388.length co74), H', ⟨by have := HK1.out; have := HK2.out; omega ⟩, ⟨by exact Kd.R_mono (Kd.R_far (p := ⟨gb361, 0, none⟩) (Kd.R_types HO_5.out BK361.out (by decide)) (fun _ hk => hk.2) (.slice Ao74 t388.length co74)) (fun _ hk => trivial)⟩, ⟨by exact Kd.S_mono (Kd.S_far (p := ⟨gb361, 0, none⟩) (Kd.S_types HO390.out BK361.out (by decide)) (fun _ hk => hk.2) (.slice Ao74 t388.length co74)) (fun _ hk => trivial)⟩, ⟨by refine blk_far ?_ NB355_361.out _; exact BK355.out⟩, ⟨by refine blk_put (cs := #[u362000]) ?_ 0 _ rfl; exact BK361.out⟩, ⟨IsS47.to HI0⟩, ⟨kee HK⟩, ⟨belA HB⟩⟩
    rw [if_pos c60] at H
    have c60b0 : (t380 == 0) = true := beq_iff_eq.mpr c60
    have c60b1 : (t380 != 0) = false := bne_eq_false_iff_eq.mpr c60
    clear c60
    by_cases c61 : 0 < (x362000_2.length : Int)
    rotate_left
    ·rw [if_neg c61] at H
     exact absurd H (by simp)
    rw [if_pos c61] at H
    have c61b0 : decide (0 < (x362000_2.length : Int)) = true := decide_eq_true c61
    have c61b1 : decide (0 < x362000_2.length) = true := decide_eq_true (by omega)
    clear c61
    by_cases c62 : (rd_L4 x362000_2 0).length < 17592186044416
    rotate_left
    ·rw [if_neg c62] at H
     exact absurd H (by simp)
    rw [if_pos c62] at H
    have LMc62 := Aside0.mk c62
    clear c62
    obtain ⟨y384, hy384⟩ : ∃ y_ : List Int, y_ = ((rd_L4 x362000_2 0) ++ [wrap64 ((t356.length : Int) + 1)]) := ⟨_, rfl⟩
    replace H : (spec_l1Cur_filled.j2 k2 t356 s0_0 t381 t382 (x362000_2.set (0 : Int).toNat y384)) = some (r1, r2, r3, r4, r5) := by (rw [hy384]; with_reducible exact H) 
    have Ny384 := Aside0.mk hy384
    clear hy384
    obtain ⟨y387, hy387⟩ : ∃ y_ : List (List Int), y_ = (x362000_2.set (0 : Int).toNat y384) := ⟨_, rfl⟩
    replace H : (spec_l1Cur_filled.j2 k2 t356 s0_0 t381 t382 y387) = some (r1, r2, r3, r4, r5) := by (rw [hy387]; with_reducible exact H) 
    have Ny387 := Aside0.mk hy387
    clear hy387
    have H' := Aside0.mk H
    clear H
    try go_wp2
    have n0_ := Aside0.mk (Kd.R_drew HO_5.out)
    have n1_ := Aside0.mk (Kd.S_drew HO_362000.out)
    have n2_ := Aside0.mk (blk_drew BK355.out)
    have n3_ := Aside0.mk (blk_drew BK361.out)
    have n4_ := Aside0.mk (IsS47.drew HI0.out)
    have n5_ := Aside0.mk (keep_drew HK.out)
    have n6_ := Aside0.mk (below_drew1 HB.out)
    clear HO_5 HO_362000 BK355 BK361 HI0 HK HB
    have HO_5 := n0_
    have HO_362000 := n1_
    have BK355 := n2_
    have BK361 := n3_
    have HI0 := n4_
    have HK := n5_
    have HB := n6_
    clear n0_ n1_ n2_ n3_ n4_ n5_ n6_
    obtain ⟨Ao65, co65, eo65⟩ := Kd.S_slice HO_362000.out
    (subst eo65 )
    have p383 : 0 ≤ (0 : Int) := (by omega)
    have q383 : 0 < (x362000_2.length : Int) := oda
    obtain ⟨ad383, A383_0, c383_0, e383, hx383_0, hl383_0, hi383_0⟩ := at_L4 (Kd.S_reads' HO_362000.out).2.2 0 p383 q383
    cases e383
    obtain ⟨ce383, hce383, hMe383, hcc383⟩ := Kd.S_get HO_362000.out [] 0 p383 (by exact q383 )
    obtain ⟨ve383_0, rfl, ge383_0⟩ := hMe383
    have hv383_0 := hcc383 0 _ rfl
    rw [Nat.add_zero, show ((Kd.slice 3 (Kd.int .i64))).sz = 1 from rfl, Nat.mul_one] at hv383_0
    replace hv383_0 := Option.some.inj (hv383_0.symm.trans hx383_0)
    rw [hv383_0] at ge383_0
    have HL383_0 := Aside0.mk (show Kd.R (Kd.int .i64) 3 _ _ _ _ (rd_L4 x362000_2 0) from ge383_0)
    clear hv383_0 ge383_0
    have HX383_0 := Aside0.mk hx383_0
    clear hcc383 hce383
    have qi383 : (0 < x362000_2.length) = True := eq_true (by omega)
    (try rw [show ((0 : Int)).toNat = 0 from rfl] at hx383_0)
    (try rw [Addr.add_zero'] at hx383_0)
    have HR383_0 := Aside0.mk hi383_0
    have HC383_0 := Aside0.mk hl383_0
    clear hi383_0 hl383_0
    replace p383 := eq_true p383
    replace q383 := eq_true q383
    obtain ⟨go66, co66, eo66, gb66, gl66, cl66, HG66⟩ := Kd.S_form HO_362000.out (by have h_ : (0 : Int) < ((x362000_2.length : Int) : Int) := oda; have h2_ : 0 ≤ (0 : Int) := (by omega); omega)
    (cases eo66 )
    have GB66 := Aside0.mk gb66
    have GG66 := Aside0.mk HG66
    clear gb66 gl66 HG66
    obtain ⟨oki66, ce66, hcl66, hM66, hcc66, _, _, hH66⟩ := Kd.S_elem HO_362000.out [] (0 : Int) (by omega) (by have h_ : (0 : Int) < ((x362000_2.length : Int) : Int) := oda; exact h_ )
    obtain ⟨ve66_0, rfl, ge66_0⟩ := hM66
    have hv66 := hcc66 0 _ rfl
    have hX66 := HX383_0.out
    (try simp only [add_plain] at hX66)
    (try simp only [Nat.add_zero] at hv66)
    (try rw [show ((Kd.slice 3 (Kd.int .i64))).sz = 1 from rfl, Nat.mul_one] at hv66)
    replace hv66 := Option.some.inj (hv66.symm.trans hX66)
    subst hv66
    clear hX66 hcc66 hcl66
    have UU66 := Aside0.mk (show Kd.R (Kd.int .i64) 3 _ w.heap.size oki66 (.slice A383_0 (rd_L4 x362000_2 0).length c383_0) (rd_L4 x362000_2 0) from ge66_0)
    have HH66 := Aside0.mk hH66
    have HN66 := Aside0.mk (Kd.S_reads' HO_362000.out).1
    clear hH66 ge66_0
    refine start_ (n := 13) (S := fun w' => w'.cell? ⟨gb361, 0, none⟩ = some (.slice (some ⟨go66, 0, none⟩) x362000_2.length co65) ∧ w'.cell? ⟨go66, 0, none⟩ = some (.slice A383_0 (rd_L4 x362000_2 0).length c383_0)) (ds := [12]) #[false, false, false, false, false, false, false, false, false, false, false, false, false] (by kernel_rfl) rfl rfl ⟨(blk_cell BK361.out 0).trans rfl, hx383_0⟩ (fun hHeld => ?_); refine with_tabW spec_l1Cur_filled.tab15 spec_l1Cur_filled.bits15 (fun HT_ HW_ => ?_)
    generalize w59.drew = w64 at HO_5 HO_362000 BK355 BK361 HI0 HK HB GG66 HH66 HL383_0 HR383_0 HX383_0 UU66 hx383_0 hHeld ⊢
    refine pu 0 (some 68) (bx 13 1) (h := ?_)
    refine pu 2 (some 70) (bx 13 5) (h := ?_)
    refine pu 6 (some 74) (bx 13 69) (h := ?_)
    refine pu 7 (some 75) (bx 13 197) (h := ?_)
    refine pu 8 (some 76) (bx 13 453) (h := ?_)
    refine tk2 1 (some 69) (bx 13 455) (h := ?_)
    refine tk2 3 (some 71) (bx 13 463) (h := ?_)
    refine pu 4 (some 72) (bx 13 479) (h := ?_)
    refine tk2 5 (some 73) (bx 13 511) (h := ?_)
    refine on 9 (some 77) (bx 13 1023) (h := fun K hK => ?_)
    refine value_ (w1 := ?_) (v := ?_) (by rfl) rfl ?_ ?_
    rotate_left 2
    ·go_simp
     constructor
     ·rfl
     rfl
    refine hK.out _ _ ⟨(blk_cell (blk_alloc BK361.out _) 0).trans rfl, (World.cell?_alloc_lt _ _ _ (World.block_lt_of_cell? _ _ (hHeld.2))).trans (hHeld.2)⟩ (fun hHeld => ?_)
    clear hK K
    refine nm 77 (h := ?_)
    refine on 10 (some 78) (bx 13 2047) (h := fun K hK => ?_)
    refine Kd.R_append_step (Kd.int .i64) w.heap.size (by rfl) (.tmp 73) (.tmp 77) 30 3 (.int .i64 0) 8 rfl Try.underlying30 info3 rfl (by decide) (by omega) (.slice A383_0 (rd_L4 x362000_2 0).length c383_0) (rd_L4 x362000_2 0) (wrap64 ((t356.length : Int) + 1)) [.int .i64 (wrap64 ((t356.length : Int) + 1))] (fun k_ => oki66 k_ ∨ ((fun _ => True)) k_ ∧ w64.heap.size ≤ k_) (fun _ => False) rfl rfl ?aP (fun _ hk => hk.elim) ?aF ?aO (Below.refl _ _) ?aS ?aL ?_
    (case aP => exact rfl)
    (case aF => exact (fun k_ hk => .inr ⟨trivial, hk⟩))
    (case aO => exact (by exact Kd.R_mono UU66.out (fun _ hk => .inl hk)))
    (case aS => exact (keep_size (w := w) (g := g) (row := none) (kee HK)))
    (case aL => have := LMc62.out; omega)
    intro v385 w67 ho hb hg hat
    (have HS1_ := cell_grown hg (cell_unalloc (hHeld.2) (by exact Kd.S_lt HO_362000.out _ rfl)) (by exact (fun e_ => ((HL383_0.out.1 _ e_.symm).2) rfl)))
    rw [← Ny384.out] at ho
    have n0_ := Aside0.mk (Kd.R_over' (v := (.slice A383_0 (rd_L4 x362000_2 0).length c383_0)) (rdl HO_5) (Kd.R_typed HL383_0.out) (by decide) hg)
    have n1_ := Aside0.mk (blk_grown (g := gb355) (o := .cells #[.slice none 0 0] 26 (0, 0)) (bkl BK355) hg (Kd.R_ne HL383_0.out BK355.out (by decide)))
    have n2_ := Aside0.mk (blk_grown (g := gb361) (o := .cells #[.slice (some ⟨go66, 0, none⟩) x362000_2.length co65] 26 (0, 0)) (bkl BK361) hg (Kd.R_ne HL383_0.out BK361.out (by decide)))
    have n3_ := Aside0.mk (IsS47.grown (IsS47.to HI0) hg (IsS47.own_ne HI0.out HL383_0.out (by decide)))
    have n4_ := Aside0.mk (below_weaken (belA HB) HL.out hb)
    have n5_ := Aside0.mk (KeepBut.trans (kee HK) (KeepBut.of_grown hg g) (Kd.R_base2 HL383_0.out))
    have n6_ := Aside0.mk (Kd.H_grown (Kd.H_widen (by repeat (exact HH66.out ))) hg (fun k_ e_ => .inl (UU66.out.1 k_ e_)))
    have n7_ := Aside0.mk (ho)
    clear HO_5 BK355 BK361 HI0 HB HK HH66 HO_362000 UU66 HL383_0
    have HO_5 := n0_
    have BK355 := n1_
    have BK361 := n2_
    have HI0 := n3_
    have HB := n4_
    have HK := n5_
    have HH66 := n6_
    have HO386 := n7_
    clear n0_ n1_ n2_ n3_ n4_ n5_ n6_ n7_ ho hb hg hat
    have p63 : 0 ≤ (0 : Int) := (by omega)
    have q63 : (0 : Int) < ((x362000_2.length : Int) : Int) := oda
    replace p63 := eq_true p63
    replace q63 := eq_true q63
    obtain ⟨Ao70, co70, eo70⟩ := Kd.R_slice HO386.out
    (subst eo70 )
    obtain ⟨_, _, hraw68, _, _, hcc68, _⟩ := Kd.H_raw HH66.out (by omega) (by have h_ : (0 : Int) < ((x362000_2.length : Int) : Int) := oda; exact h_ )
    obtain ⟨_, hfr68⟩ := Kd.H_at HH66.out (by omega) (by have h_ : (0 : Int) < ((x362000_2.length : Int) : Int) := oda; exact h_ )
    have hx68_0 := hcc68 0 _ rfl
    have hf68_0 := hfr68 0
    (try simp only [Nat.add_zero] at hx68_0 hf68_0)
    (try rw [show ((Kd.slice 3 (Kd.int .i64))).sz = 1 from rfl, Nat.mul_one] at hx68_0)
    (try rw [show ((Kd.slice 3 (Kd.int .i64))).sz = 1 from rfl, Nat.mul_one] at hf68_0)
    (try rw [show ((0 : Int)).toNat = 0 from rfl] at hx68_0)
    (try rw [show ((0 : Int)).toNat = 0 from rfl] at hf68_0)
    have HP68 := Kd.S_seg0 HH66.out (by omega) (by have h_ : (0 : Int) < ((x362000_2.length : Int) : Int) := oda; exact h_ ) (seg := [.slice Ao70 y384.length co70]) (j := 0) (show 1 ≤ 1 from by decide) (x' := y384) (Kd.M_row HO386.out) (fun _ hk => hk)
    (try simp only [show ((Kd.slice 3 (Kd.int .i64))).sz = 1 from rfl, Nat.mul_one, Nat.add_zero] at HP68)
    clear hcc68 hfr68
    have HN0_go66 := Aside0.mk (show g ≠ go66 from by have h_ := IsS47.own_ne HI0.out hraw68 (by decide); intro e_; exact h_ (by rw [e_]; rfl))
    have HNB355_go66 := Aside0.mk (show gb355 ≠ go66 from by have h_ := Kd.R_ne hraw68 BK355.out (by decide); intro e_; exact h_ (by rw [e_]; rfl))
    have HNB361_go66 := Aside0.mk (show gb361 ≠ go66 from by have h_ := Kd.R_ne hraw68 BK361.out (by decide); intro e_; exact h_ (by rw [e_]; rfl))
    have HS68 := HP68.1
    rw [← Ny387.out] at HS68
    have HQ68 := Aside0.mk HS68
    obtain ⟨_, hgg68⟩ := Kd.R_typed hraw68 go66 rfl
    have GG68_ := Aside0.mk hgg68
    clear HP68 HS68 hgg68
    refine hK.out _ _ ⟨(blk_cell BK361.out 0).trans rfl, HS1_⟩ (fun hHeld => ?_)
    clear hK K
    refine nm 78 (h := ?_)
    refine pu 11 (some 79) (bx 13 4095) (h := ?_)
    refine last_ (i := 12) (N := none) #[true, true, true, true, true, true, true, true, true, true, true, true, true] rfl rfl (one_of HT_.out (by kernel_rfl)) (by decide) (fun K hK => ?_)
    refine skip_ (w1 := ?_) (by rfl) rfl ?_ ?_
    rotate_left
    ·go_simp
     rfl
    refine hK.out _ _ ?_
    clear hK K
    refine done_ (done_of HT_.out (by kernel_rfl)) ?_
    try go_wp2
    go_meet
    case rel => exact ⟨_, (t381), (t382), (y387), (.slice (some ⟨go66, 0, none⟩) x362000_2.length co65), H', ⟨by have := HK1.out; have := HK2.out; omega ⟩, ⟨by exact Kd.R_mono (Kd.R_far (p := ⟨go66, 0, none⟩) (Kd.R_types HO_5.out GG68_.out (by decide)) (fun _ hk => hk.2) (.slice Ao70 y384.length co70)) (fun _ hk => trivial)⟩, ⟨sdl HQ68⟩, ⟨by refine blk_far ?_ HNB355_go66.out _; exact BK355.out⟩, ⟨by refine blk_far ?_ HNB361_go66.out _; exact BK361.out⟩, ⟨IsS47.to HI0⟩, ⟨kee HK⟩, ⟨by repeat ((with_reducible first | exact HB.out | refine below_set ?_ (Nat.le_trans HL.out GB66.out) ) )⟩⟩
   clear HC57
   try clear c22b0
   obtain ⟨kq, x1001_56, x1002_56, x362000_56, u362000, HA, HJ56, HO_5, HO_362000, BK355, BK361, HI0, HK, HB⟩ := hcut
   cases kq with
   | zero => exact absurd HA.out (by simp [spec_l1Cur_filled.j2])
   | succ kj56 =>
    have H := HA.out
    clear HA
    simp only [spec_l1Cur_filled.j2] at H
    obtain ⟨y393, hy393⟩ : ∃ y_ : List Int, y_ = (([0, 1, 2, 6, (-1), 7] : List Int)) := ⟨_, rfl⟩
    replace H : ((spec_l1Cur_pick.f s0_0 x1001_56 x1002_56 24).bind fun bt396 => ((spec_l1Cur_filled.among s0_0 bt396.2.1 bt396.2.2 y393 bt396.1).bind fun bt399 => (some (x362000_56, t356, bt399.1, bt399.2.1, bt399.2.2)))) = some (r1, r2, r3, r4, r5) := by (rw [hy393]; with_reducible exact H) 
    have Ny393 := Aside0.mk hy393
    clear hy393
    obtain ⟨⟨t396, t397, t398⟩, A78, H⟩ := bnd H
    try dsimp only at H
    obtain ⟨⟨t399, t400, t401⟩, A79, H⟩ := bnd H
    try dsimp only at H
    simp only [Option.some.injEq, Prod.mk.injEq] at H
    obtain ⟨rfl, rfl, rfl, rfl, rfl⟩ := H
    try go_wp2
    have HF0 := Aside0.mk (show spec_l1Cur_filled.W w0 w g gb361 gb355 u362000 (.slice Ao58 t356.length co58) x362000_56 t356 s0_0 x1001_56 x1002_56 wc.drew from ⟨IsS47.drew HI0.out, below_drew1 HB.out, keep_drew HK.out, blk_drew BK361.out, blk_drew BK355.out, Kd.S_drew HO_362000.out, Kd.R_drew HO_5.out⟩)
    clear HI0 HB HK BK361 BK355 HO_362000 HO_5
    refine start_ (n := 13) (S := fun w' => w'.cell? ⟨gb361, 0, none⟩ = some u362000) (ds := []) #[false, false, false, false, false, false, false, false, false, false, false, false, false] (by kernel_rfl) rfl rfl HF0.out.cell (fun hHeld => ?_)
    refine with_tabW spec_l1Cur_filled.tab18 spec_l1Cur_filled.bits18 (fun HT_ HW_ => ?_)
    generalize wc.drew = w80 at HF0 hHeld ⊢
    refine pu 1 (some 85) (bx 13 2) (h := ?_)
    refine pu 2 (some 86) (bx 13 6) (h := ?_)
    refine pu 4 (some 88) (bx 13 22) (h := ?_)
    refine tk1 0 (some 84) (bx 13 23) (h := ?_)
    have HSZ := Aside0.mk (show w.heap.size ≤ w80.heap.size from HF0.out.2.2.1.1)
    refine join_ (σ := Value) 5 #[true, true, true, true, true, true, true, true, false, false, false, false, false] (fun s_ => [(87, s_), (89, .int .i64 t396), (90, .int .i64 (wrap64 (Int.tdiv t396 11))), (91, .int .i64 (wrap64 (4 + (wrap64 (Int.tdiv t396 11)))))]) (fun s_ w' => spec_l1Cur_filled.W w0 w g gb361 gb355 u362000 (.slice Ao58 t356.length co58) x362000_56 t356 s0_0 t397 t398 w' ∧ Kd.R (Kd.int .i64) 3 w' w.heap.size (fun _ => True) s_ y393) ?_ ?_
    rotate_left
    ·intro hCont
     refine two_ (i := 3) (j := 5) (Ni := some 87) (Nj := some 89) #[true, true, true, true, true, false, false, false, false, false, false, false, false] #[true, true, true, false, true, true, false, false, false, false, false, false, false] rfl rfl rfl rfl (two_of HT_.out (by kernel_rfl)) (by decide) (by decide) (fun K hK => ?_) (fun K hK => ?_)
     ·refine Kd.R_lit_step (Kd.int .i64) _ 3 ?hg (N := 87) ?hd (xs := ([0, 1, 2, 6, (-1), 7] : List Int)) (inner := [.int .i64 0, .int .i64 1, .int .i64 2, .int .i64 6, .int .i64 (-1), .int .i64 7]) (ok := fun _ => True) (okp := fun _ => True) ?hr ?hp (fun _ hk => hk) trivial (Below.refl _ _) (Nat.le_refl _) (by simp) ?_; (case hd | hg => rfl); (case hr => go_simp); (case hp => exact (Reps.one (show Kd.M (Kd.int .i64) _ _ _ 0 [.int .i64 0] from rfl) (Reps.one (show Kd.M (Kd.int .i64) _ _ _ 1 [.int .i64 1] from rfl) (Reps.one (show Kd.M (Kd.int .i64) _ _ _ 2 [.int .i64 2] from rfl) (Reps.one (show Kd.M (Kd.int .i64) _ _ _ 6 [.int .i64 6] from rfl) (Reps.one (show Kd.M (Kd.int .i64) _ _ _ (-1) [.int .i64 (-1)] from rfl) (Reps.one (show Kd.M (Kd.int .i64) _ _ _ 7 [.int .i64 7] from rfl) (Reps.none _ _))))))))
      intro v87 w81 h5 hb hg_ hnew_
      clear hg_ hnew_
      rw [← Ny393.out] at h5
      have hf := HF0.out.below hb
      refine hK.out _ _ hf.cell (fun hHeld => ?_)
      clear hK K
      refine nm 87 (h := ?_)
      refine on 5 (some 89) (bx 13 63) (h := fun K hK => ?_)
      refine goes_ Try.func16 (by kernel_rfl) rfl #[.pointer (some ⟨g, 0, none⟩), .int .i64 24] (by rfl) rfl rfl gmp ?_
      refine (spec_l1Cur_pick.calls g s0_0 x1001_56 x1002_56 24 t396 t397 t398 w0 _ hf.1 hf.2.1 A78.out).mono ?_
      rintro e w82 ⟨rfl, hi, hb, hk⟩
      refine ⟨_, rfl, ?_⟩
      have h5 := Kd.R_mono (Kd.R_keep (hf.1.apart (Kd.R_lower h5 HSZ.out) (by decide)) hk (fun _ h => h.2)) (fun _ h => h.1)
      have hf := hf.pick hi hb hk
      refine hK.out _ _ hf.cell (fun hHeld => ?_)
      clear hK K
      refine nm 89 (h := ?_)
      refine pu 6 (some 90) (bx 13 127) (h := ?_)
      refine pu 7 (some 91) (bx 13 255) (h := ?_)
      exact norm_ (by simp only [putAll, Act.put, List.setIfInBounds_toArray, List.set_cons_zero, List.set_cons_succ]) (hCont v87 _ ⟨hf, h5⟩)
     refine goes_ Try.func16 (by kernel_rfl) rfl #[.pointer (some ⟨g, 0, none⟩), .int .i64 24] (by rfl) rfl rfl gmp ?_
     refine (spec_l1Cur_pick.calls g s0_0 x1001_56 x1002_56 24 t396 t397 t398 w0 _ HF0.out.1 HF0.out.2.1 A78.out).mono ?_
     rintro e w81 ⟨rfl, hi, hb, hk⟩
     refine ⟨_, rfl, ?_⟩
     have hf := HF0.out.pick hi hb hk
     refine hK.out _ _ hf.cell (fun hHeld => ?_)
     clear hK K
     refine nm 89 (h := ?_)
     refine pu 6 (some 90) (bx 13 119) (h := ?_)
     refine pu 7 (some 91) (bx 13 247) (h := ?_)
     refine on 3 (some 87) (bx 13 255) (h := fun K hK => ?_)
     refine Kd.R_lit_step (Kd.int .i64) _ 3 ?hg (N := 87) ?hd (xs := ([0, 1, 2, 6, (-1), 7] : List Int)) (inner := [.int .i64 0, .int .i64 1, .int .i64 2, .int .i64 6, .int .i64 (-1), .int .i64 7]) (ok := fun _ => True) (okp := fun _ => True) ?hr ?hp (fun _ hk => hk) trivial (Below.refl _ _) (Nat.le_refl _) (by simp) ?_; (case hd | hg => rfl); (case hr => go_simp); (case hp => exact (Reps.one (show Kd.M (Kd.int .i64) _ _ _ 0 [.int .i64 0] from rfl) (Reps.one (show Kd.M (Kd.int .i64) _ _ _ 1 [.int .i64 1] from rfl) (Reps.one (show Kd.M (Kd.int .i64) _ _ _ 2 [.int .i64 2] from rfl) (Reps.one (show Kd.M (Kd.int .i64) _ _ _ 6 [.int .i64 6] from rfl) (Reps.one (show Kd.M (Kd.int .i64) _ _ _ (-1) [.int .i64 (-1)] from rfl) (Reps.one (show Kd.M (Kd.int .i64) _ _ _ 7 [.int .i64 7] from rfl) (Reps.none _ _))))))))
     intro v87 w82 h5 hb2 hg_ hnew_
     clear hg_ hnew_
     rw [← Ny393.out] at h5
     have hf2 := hf.below hb2
     refine hK.out _ _ hf2.cell (fun hHeld => ?_)
     clear hK K
     refine nm 87 (h := ?_)
     exact norm_ (by simp only [putAll, Act.put, List.setIfInBounds_toArray, List.set_cons_zero, List.set_cons_succ]) (hCont v87 _ ⟨hf2, Kd.R_lower h5 hf.2.2.1.1⟩)
    rintro v87 w83 ⟨hf, h5⟩
    refine norm_ (a' := ?_) ?_ ?_
    rotate_left
    ·simp only [putAll, Act.put, List.setIfInBounds_toArray, List.set_cons_zero, List.set_cons_succ]
     rfl
    have HF1 := Aside0.mk hf
    have HL1 := Aside0.mk h5
    clear HF0 hf h5
    have hHeld := HF1.out.cell
    obtain ⟨Ac, cc, ec⟩ := Kd.R_slice HL1.out
    subst ec
    have hq := spec_l1Cur_filled.cut_le (spec_l1Cur_filled.among_f A79.out).1.1 (spec_l1Cur_filled.among_f A79.out).1.2
    have hl : y393.length = 6 := by rw [Ny393.out]; rfl
    have HT9 := Aside0.mk (Kd.R_take (m := spec_l1Cur_filled.cutn t396) HL1.out (by show (wrap64 _).toNat ≤ _; omega))
    obtain ⟨i0, hi0, _, _, _⟩ := info_parts info3
    have hcut := cut_to (P := Try.prog) 30 3 .i64 Try.underlying30 hi0 Ac y393.length cc _ hq.1 (by omega) (Kd.R_reads' HL1.out).2.1
    clear hi0 hl hq
    refine pu 8 (some 92) (bx 13 511) (h := ?_)
    clear hcut
    refine on 9 (some 93) (bx 13 1023) (h := fun K hK => ?_)
    refine goes_ Try.func35 (by kernel_rfl) rfl #[.pointer (some ⟨g, 0, none⟩), .slice Ac (spec_l1Cur_filled.cutn t396) cc] (by rfl) rfl rfl gmp ?_
    rw [show spec_l1Cur_filled.cutn t396 = (y393.take (spec_l1Cur_filled.cutn t396)).length from (Kd.R_reads' HT9.out).1]
    refine (spec_l1Cur_among.calls g s0_0 t397 t398 _ _ (y393.take (spec_l1Cur_filled.cutn t396)) t399 t400 t401 w0 _ HF1.out.1 HF1.out.2.1 (Kd.R_reads' HT9.out).2.2 (by rw [← (Kd.R_reads' HT9.out).1]; exact (Kd.R_reads' HT9.out).2.1) (fun ad e_ _ hb_ => IsS47.own_ne HF1.out.1 HL1.out (by decide) (by rw [e_, ← hb_]; rfl)) (spec_l1Cur_filled.among_f A79.out).2).mono ?_
    rintro e w84 ⟨rfl, hi, hb, hk⟩
    refine ⟨_, rfl, ?_⟩
    have HF2 := Aside0.mk (HF1.out.pick hi hb hk)
    clear hi hb hk HF1 HL1 HT9
    refine hK.out _ _ HF2.out.cell (fun hHeld => ?_)
    clear hK K
    refine nm 93 (h := ?_)
    obtain ⟨A84, c84, e84⟩ := Kd.S_slice HF2.out.2.2.2.2.2.1
    subst e84
    have hd0 : w84.cell? ⟨gb355, 0, none⟩ = some (.slice none 0 0) := (blk_cell HF2.out.2.2.2.2.1 0).trans rfl
    have hd1 := blk_frozen HF2.out.2.2.2.2.1 0
    refine on 10 none (bx 13 2047) (h := fun K hK => ?_)
    refine skip_ (w1 := ?_) (by rfl) rfl ?_ ?_
    rotate_left
    ·go_simp
     rfl
    refine hK.out _ _ ((blk_cell (blk_far (p := ⟨gb355, 0, none⟩) HF2.out.2.2.2.1 NB361_355.out _) 0).trans rfl) (fun hHeld => ?_)
    clear hK K hd0 hd1
    refine pu 11 (some 3) (bx 13 4095) (h := ?_)
    refine pu 12 (some 4) (bx 13 8191) (h := ?_)
    refine done_ (done_of HT_.out (by kernel_rfl)) ?_
    clear hHeld HT_ HW_
    have HS := Kd.S_set HF2.out.2.2.2.2.2.1 HF2.out.2.2.2.2.1 (by decide) 0 (.slice A84 x362000_56.length c84)
    have HSl := Kd.R_mono (Kd.R_far (p := ⟨gb355, 0, none⟩) (Kd.R_types HF2.out.2.2.2.2.2.2 HF2.out.2.2.2.2.1 (by decide)) (fun _ h => h.2) (.slice A84 x362000_56.length c84)) (fun _ h => h.1)
    try go_wp2
    refine bodyPost_ret (results_ctt rfl _ _ gb355 26 #[.slice A84 x362000_56.length c84] (0, 0) _ rfl (by exact blk_put HF2.out.2.2.2.2.1 0 _ rfl) Try.underlying26 rfl (by kernel_rfl)) rfl ?_
    exact ⟨_, _, rfl, HS, HSl, IsS47.far HF2.out.1 NB0_355.out _, below_set HF2.out.2.1 GE355.out, keep_far HF2.out.2.2.1 GW355.out _⟩
end Go.Proofs.Ytemildnlfjijmaa.P
