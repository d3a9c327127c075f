-- Written by a program of this session over the translation (a variant of the printer, see wip/gen); Lean checks it.
import Derived.Test.YtlnihlmlkdhiaaaPx0
import Derived.Test.YtlnihlmlkdhiaaaPx4
namespace Go.Proofs.Ytlnihlmlkdhiaaa.P
open Go.RowKit Go.Proofs.YtlnihlmlkdhiaaaW.PrintWords Go.Proofs.YtlnihlmlkdhiaaaW.PrintLast Go.Proofs.YtlnihlmlkdhiaaaW.PrintMore
attribute [local go_sem] Go.Proofs.Ytlnihlmlkdhiaaa.V.isSome_setCell max2_int min2_int max_two min_two max_three min_three max_four min_four   -- for this text's walks alone
set_option linter.unusedVariables false
set_option linter.unusedSimpArgs false

/-! ### spec_l6Run: function 25 -/
def spec_l6Run.l0 : Nat → List (S51) → List Int → Int → List (List Int) → Option ((List (List Int)) × List Int × Bool)
 | 0, _, _, _, _ => none
 | k + 1, x1, x7, x8, x163000 => if x8 < (x1.length : Int) then (if 0 ≤ x8 then ((spec_l6Step.f k x163000 ((rd_T51 x1 x8).f0) ((rd_T51 x1 x8).f1)).bind fun bt168 => (if bt168.2 = true then (if ((rd_T51 x1 x8).f1) = (-1) then (if x7.length < 17592186044416 then (spec_l6Run.l0 k x1 (x7 ++ [(rd_T51 x1 x8).f0]) (wrap64 (x8 + 1)) bt168.1) else (none)) else (spec_l6Run.l0 k x1 x7 (wrap64 (x8 + 1)) bt168.1)) else (some (([] : List (List Int)), (([] : List Int)), false)))) else (none)) else (some (x163000, x7, true))
def spec_l6Run.f (k : Nat) (l0_0 : List (List Int)) (l1 : List (S51)) : Option ((List (List Int)) × List Int × Bool) := spec_l6Run.l0 k l1 (([] : List Int)) 0 l0_0
theorem spec_l6Run.mono_l : ∀ k, (∀ y0 y1 y2 y3, LeO (spec_l6Run.l0 k y0 y1 y2 y3) (spec_l6Run.l0 (k + 1) y0 y1 y2 y3))
 | 0 => fun _ _ _ _ r h => by simp [spec_l6Run.l0] at h
 | k + 1 => by
  have ih0 := spec_l6Run.mono_l k
  ·intro y0 y1 y2 y3
   unfold spec_l6Run.l0
   repeat' first
   | (with_reducible exact ih0 _ _ _ _)
   | (with_reducible exact spec_l6Step.mono _ _ _ _)
   | (with_reducible exact LeO.refl _)
   | (with_reducible exact LeO.none _)
   | (with_reducible refine LeO.ite ?_ ?_)
   | (with_reducible refine LeO.bind ?_ (fun _ => ?_))
   | exact ih0 _ _ _ _
   | exact spec_l6Step.mono _ _ _ _
   | exact LeO.none _
   | refine LeO.ite ?_ ?_
   | refine LeO.bind ?_ (fun _ => ?_)
theorem spec_l6Run.mono : ∀ a0 a1 k, LeO (spec_l6Run.f k a0 a1) (spec_l6Run.f (k + 1) a0 a1) := by
 intro a0 a1 k
 have ih0 := spec_l6Run.mono_l k
 unfold spec_l6Run.f
 repeat' first
   | (with_reducible exact ih0 _ _ _ _)
   | (with_reducible exact spec_l6Step.mono _ _ _ _)
   | (with_reducible exact LeO.refl _)
   | (with_reducible exact LeO.none _)
   | (with_reducible refine LeO.ite ?_ ?_)
   | (with_reducible refine LeO.bind ?_ (fun _ => ?_))
   | exact ih0 _ _ _ _
   | exact spec_l6Step.mono _ _ _ _
   | exact LeO.none _
   | refine LeO.ite ?_ ?_
   | refine LeO.bind ?_ (fun _ => ?_)
def spec_l6Run.T5 : Bool × List (List Nat × List Nat) := (true, [([], []), ([], []), ([], []), ([1, 2], [1, 2]), ([3], [3]), ([0, 4], [0, 4]), ([5], [5]), ([6], [6]), ([6], [6]), ([], []), ([9, 7, 5, 0, 1, 2, 3, 4, 5, 6, 7, 9], [7, 9]), ([8, 10, 0, 1, 2, 3, 4, 5, 6, 7, 8, 9, 10], [8])])
def spec_l6Run.B5 : List Nat := [0, 0, 0, 6, 14, 31, 63, 127, 127, 0, 767, 2047]
theorem spec_l6Run.tab5 : rtab .any (opsOf Try.f25 5) = spec_l6Run.T5 := by kernel_rfl
theorem spec_l6Run.bits5 : waitsOk spec_l6Run.T5.2 spec_l6Run.B5 = true := by kernel_rfl
set_option maxHeartbeats 8000000 in
set_option maxRecDepth 100000 in
theorem spec_l6Run.calls (k : Nat) (P0_0_ : Nat → Prop) (A0_0 : Option Addr) (c0_0 : Nat) (l0_0 : List (List Int)) (A1 : Option Addr) (c1 : Nat) (l1 : List (S51)) (r1 : List (List Int)) (r2 : List Int) (r3 : Bool) (w : World) (hs0_0 : Kd.V (Kd.slice 3 (Kd.int .i64)) 29 w w.heap.size (fun k_ => P0_0_ k_) (.slice A0_0 l0_0.length c0_0) l0_0) (hr1 : Kd.C k51 w A1 l1.length l1) (hc1 : l1.length ≤ c1) (h : spec_l6Run.f k l0_0 l1 = some (r1, r2, r3)) :
  Calls Try.prog 25 #[.agg #[.slice A0_0 l0_0.length c0_0], .slice A1 l1.length c1] w fun e w' => ∃ v0_ v1_ : Value, e = .returned (.tuple #[.agg #[v0_], v1_, .bool r3]) ∧ Kd.V (Kd.slice 3 (Kd.int .i64)) 29 w' w.heap.size (fun k_ => (P0_0_ k_ ∨ w.heap.size ≤ k_) ∧ some k_ ≠ (v1_ : Value).ownBlock) v0_ r1 ∧ Kd.R (Kd.int .i64) 3 w' w.heap.size (fun k_ => (w.heap.size ≤ k_)) v1_ r2 ∧ Below w.heap.size w w' := by
 have hu28 := Try.underlying28
 have hu51 := Try.underlying51
 have HO0_0 := Aside0.mk (show Kd.V (Kd.slice 3 (Kd.int .i64)) 29 w w.heap.size (fun k_ => (P0_0_ k_ ∨ w.heap.size ≤ k_)) (.slice A0_0 l0_0.length c0_0) l0_0 from Kd.V_mono hs0_0 (fun k_ hk => .inl hk))
 have HR1 := Aside0.mk hr1
 have HC1 := Aside0.mk hc1
 clear hr1 hc1
 have HB := Aside0.mk (Below.refl w.heap.size w)
 have H : (spec_l6Run.l0 k l1 (([] : List Int)) 0 l0_0) = some (r1, r2, r3) := h
 clear h
 obtain ⟨y164, hy164⟩ : ∃ y_ : List Int, y_ = (([] : List Int)) := ⟨_, rfl⟩
 replace H : (spec_l6Run.l0 k l1 y164 0 l0_0) = some (r1, r2, r3) := by first | (rw [hy164]; with_reducible exact H) | (have H2_ := (Option.bind_some _ _).symm.trans H; rw [hy164]; with_reducible exact H2_) | (have H2_ := (Option.bind_some _ _).symm.trans H; with_reducible exact H2_) | with_reducible exact H | (rw [hy164]; exact H) | exact H
 have Ny164 := Aside0.mk hy164
 clear hy164
 have H' := Aside0.mk H
 clear H
 go_enter Try.func25, Try.ntmps25
 go_wp2_with (first | ((with_reducible refine gate_dst (N := 2) rfl ?_); refine box_event ?hg (N := 2) ?hd (cs := #[.slice A0_0 l0_0.length c0_0]) (t := 28) ?hr ?_; (case hd => rfl); (case hg => rfl); (case hr => first | (go_simp; done) | (go_simp; rfl)); intro gb162 hg w3 hbox hb; have n0_ := Aside0.mk (Kd.V_below (Kd.V_elderB (by (with_reducible repeat (first | apply Kd.V_alloc | apply Kd.V_drewN | apply Kd.V_drew)); exact HO0_0.out) gb162 (Nat.le_of_eq hg.symm)) hb); have n1_ := Aside0.mk (below_step (bel HB) hb); have n2_ := Aside0.mk (hbox); have n3_ := Aside0.mk ((by rw [hg]; exact (below_size (bel HB)) : w.heap.size ≤ gb162)); have n4_ := Aside0.mk ((by rw [hg]; exact (below_size (bel HB)) : w.heap.size ≤ gb162)); clear HO0_0; clear HB; have HO0_0 := n0_; have HB := n1_; have BK162 := n2_; have GW162 := n3_; have GE162 := n4_; clear n0_ n1_ n2_ n3_ n4_; clear hb hbox hg) | ((with_reducible refine gate_dst (N := 4) rfl ?_); refine box_event ?hg (N := 4) ?hd (cs := #[.slice none 0 0]) (t := 28) ?hr ?_; (case hd => rfl); (case hg => rfl); (case hr => first | (go_simp; done) | (go_simp; rfl)); intro gb163 hg w4 hbox hb; have n0_ := Aside0.mk (Kd.V_below (Kd.V_elderB (by (with_reducible repeat (first | apply Kd.V_alloc | apply Kd.V_drewN | apply Kd.V_drew)); exact HO0_0.out) gb163 (Nat.le_of_eq hg.symm)) hb); have n1_ := Aside0.mk (blk_below (g := gb162) (o := .cells #[.slice A0_0 l0_0.length c0_0] 28 (0, 0)) (bkl BK162) hb); have n2_ := Aside0.mk (below_step (bel1 HB GE162) hb); have n3_ := Aside0.mk (hbox); have n4_ := Aside0.mk ((by rw [hg]; exact (below_size (bel1 HB GE162)) : w.heap.size ≤ gb163)); have n5_ := Aside0.mk ((by rw [hg]; exact (below_size (bel1 HB GE162)) : w.heap.size ≤ gb163)); have n6_ := Aside0.mk ((by rw [hg]; exact Nat.ne_of_lt (blk_lt (g := gb162) (o := .cells #[.slice A0_0 l0_0.length c0_0] 28 (0, 0)) (bkl BK162)) : gb162 ≠ gb163)); have n7_ := Aside0.mk ((by rw [hg]; exact Nat.ne_of_gt (blk_lt (g := gb162) (o := .cells #[.slice A0_0 l0_0.length c0_0] 28 (0, 0)) (bkl BK162)) : gb163 ≠ gb162)); clear HO0_0; clear BK162; clear HB; have HO0_0 := n0_; have BK162 := n1_; have HB := n2_; have BK163 := n3_; have GW163 := n4_; have GE163 := n5_; have NB162_163 := n6_; have NB163_162 := n7_; clear n0_ n1_ n2_ n3_ n4_ n5_ n6_ n7_; clear hb hbox hg) | ((with_reducible refine gate_dst (N := 11) rfl ?_); refine Kd.R_lit (Kd.int .i64) _ 3 ?hg (N := 11) ?hd (xs := ([] : List Int)) (inner := []) (ok := fun _ => True) (okp := fun _ => True) ?hr ?hp (fun _ hk => hk) trivial (Below.refl _ _) (Nat.le_refl _) (by simp) ?_; (case hd => rfl); (case hg => rfl); (case hr => first | (go_simp; done) | (go_simp; rfl)); (case hp => exact (Reps.none _ _)); intro v165 w5 ho6 hb hg_ hnew_; clear hg_ hnew_; (first | rw [← Ny164.out] at ho6 | (simp only [Int.reduceToNat] at ho6; rw [← Ny164.out] at ho6)); have n0_ := Aside0.mk (Kd.V_elder' (by (with_reducible repeat (first | apply Kd.V_alloc | apply Kd.V_drewN | apply Kd.V_drew)); exact HO0_0.out) (Kd.R_base ho6) hb); have n1_ := Aside0.mk (Kd.R_lower (Kd.R_newM (M := fun k_ => (w.heap.size ≤ k_)) ho6 (below_size (bel2 HB GE162 GE163)) (fun k_ h_ => h_)) (below_size (bel2 HB GE162 GE163))); have n2_ := Aside0.mk (blk_below (g := gb162) (o := .cells #[.slice A0_0 l0_0.length c0_0] 28 (0, 0)) (bkl BK162) hb); have n3_ := Aside0.mk (blk_below (g := gb163) (o := .cells #[.slice none 0 0] 28 (0, 0)) (bkl BK163) hb); have n4_ := Aside0.mk (below_step (bel2 HB GE162 GE163) hb); clear HO0_0; clear BK162; clear BK163; clear HB; have HO0_0 := n0_; have HO166 := n1_; have BK162 := n2_; have BK163 := n3_; have HB := n4_; clear n0_ n1_ n2_ n3_ n4_; clear hb ho6))
 go_loopg [7, 8] k (fun kq v7 v8 w' => ∃ (x7_1 : List Int) (x8_1 : Int) (x163000_1 : List (List Int)) (u163000 : Value), v8 = .int .i64 x8_1 ∧ Aside0 (spec_l6Run.l0 kq l1 x7_1 x8_1 x163000_1 = some (r1, r2, r3)) ∧ Aside0 (kq ≤ k) ∧ Aside0 (Kd.R (Kd.int .i64) 3 w' w.heap.size (fun k_ => (w.heap.size ≤ k_)) v7 x7_1) ∧ Aside0 (Kd.V (Kd.slice 3 (Kd.int .i64)) 29 w' w.heap.size (fun k_ => (P0_0_ k_ ∨ w.heap.size ≤ k_) ∧ some k_ ≠ (v7 : Value).ownBlock ∧ k_ ≠ gb162 ∧ k_ ≠ gb163) u163000 x163000_1) ∧ Aside0 (w'.heap[gb162]? = some (.cells #[u163000] 28 (0, 0))) ∧ Aside0 (w'.heap[gb163]? = some (.cells #[(.slice none 0 0)] 28 (0, 0))) ∧ Aside0 (Below w.heap.size w w'))
 case atStart => exact ⟨(y164), (0), (l0_0), (.slice A0_0 l0_0.length c0_0), (by first | rfl | (simp; done) | (simp [*]; done)), H', ⟨Nat.le_refl _⟩, ⟨by (with_reducible repeat (first | apply Kd.R_alloc | apply Kd.R_drewN | apply Kd.R_drew)); exact Kd.R_mono HO166.out (fun _ hk => hk.1)⟩, ⟨by (with_reducible repeat (first | apply Kd.V_alloc | apply Kd.V_drewN | apply Kd.V_drew)); exact Kd.V_mono HO0_0.out (fun _ hk => ⟨hk.1.1.1, ⟨hk.2, ⟨hk.1.1.2, hk.1.2⟩⟩⟩)⟩, ⟨bkl BK162⟩, ⟨bkl BK163⟩, ⟨bel2 HB GE162 GE163⟩⟩
 case round =>
  clear H'
  try clear c1
  try clear c2
  try clear p2
  obtain ⟨x7_1, x8_1, x163000_1, u163000, rfl, HA, HK1, HO_7, HO_163000, BK162, BK163, HB⟩ := hrel
  cases gk with
  | zero => exact absurd HA.out (by simp [spec_l6Run.l0])
  | succ k1 =>
   have H := HA.out
   clear HA
   simp only [spec_l6Run.l0] at H
   by_cases c7 : x8_1 < (l1.length : Int)
   ·rw [if_pos c7] at H
    have c7b0 : decide (x8_1 < (l1.length : Int)) = true := decide_eq_true c7
    clear c7
    by_cases c8 : 0 ≤ x8_1
    ·rw [if_pos c8] at H
     have c8b0 : decide (0 ≤ x8_1) = true := decide_eq_true c8
     clear c8
     replace H := Option.bind_eq_some_iff.mp H
     obtain ⟨⟨t168, t171⟩, A90, H⟩ := H
     replace H : (if t171 = true then (if ((rd_T51 l1 x8_1).f1) = (-1) then (if x7_1.length < 17592186044416 then (spec_l6Run.l0 k1 l1 (x7_1 ++ [(rd_T51 l1 x8_1).f0]) (wrap64 (x8_1 + 1)) t168) else (none)) else (spec_l6Run.l0 k1 l1 x7_1 (wrap64 (x8_1 + 1)) t168)) else (some (([] : List (List Int)), (([] : List Int)), false))) = some (r1, r2, r3) := H
     have A9 := Aside0.mk A90
     clear A90
     by_cases c10 : t171 = true
     ·subst c10
      have H1 : (if ((rd_T51 l1 x8_1).f1) = (-1) then (if x7_1.length < 17592186044416 then (spec_l6Run.l0 k1 l1 (x7_1 ++ [(rd_T51 l1 x8_1).f0]) (wrap64 (x8_1 + 1)) t168) else (none)) else (spec_l6Run.l0 k1 l1 x7_1 (wrap64 (x8_1 + 1)) t168)) = some (r1, r2, r3) := by rw [if_pos rfl] at H; exact H
      clear H
      have H := H1
      clear H1
      by_cases c11 : ((rd_T51 l1 x8_1).f1) = (-1)
      ·rw [if_pos c11] at H
       have c11b0 : (((rd_T51 l1 x8_1).f1) == (-1)) = true := beq_iff_eq.mpr c11
       have c11b1 : (((rd_T51 l1 x8_1).f1) != (-1)) = false := bne_eq_false_iff_eq.mpr c11
       clear c11
       by_cases c12 : x7_1.length < 17592186044416
       ·rw [if_pos c12] at H
        have LMc12 := Aside0.mk c12
        clear c12
        obtain ⟨y175, hy175⟩ : ∃ y_ : List Int, y_ = (x7_1 ++ [(rd_T51 l1 x8_1).f0]) := ⟨_, rfl⟩
        replace H : (spec_l6Run.l0 k1 l1 y175 (wrap64 (x8_1 + 1)) t168) = some (r1, r2, r3) := by first | (rw [hy175]; with_reducible exact H) | (have H2_ := (Option.bind_some _ _).symm.trans H; rw [hy175]; with_reducible exact H2_) | (have H2_ := (Option.bind_some _ _).symm.trans H; with_reducible exact H2_) | with_reducible exact H | (rw [hy175]; exact H) | exact H
        have Ny175 := Aside0.mk hy175
        clear hy175
        have H' := Aside0.mk H
        clear H
        obtain ⟨Ao13, co13, eo13⟩ := Kd.V_slice HO_163000.out
        subst eo13
        try go_wp2
        have n0_ := Aside0.mk (Kd.R_drew HO_7.out)
        have n1_ := Aside0.mk (Kd.V_drew HO_163000.out)
        have n2_ := Aside0.mk (blk_drew BK162.out)
        have n3_ := Aside0.mk (blk_drew BK163.out)
        have n4_ := Aside0.mk (below_drew1 HB.out)
        clear HO_7
        clear HO_163000
        clear BK162
        clear BK163
        clear HB
        have HO_7 := n0_
        have HO_163000 := n1_
        have BK162 := n2_
        have BK163 := n3_
        have HB := n4_
        clear n0_ n1_ n2_ n3_ n4_
        have p167 : 0 ≤ (x8_1 : Int) := oda
        have q167 : x8_1 < (l1.length : Int) := oda
        obtain ⟨ad167, e167, hx167_0, hx167_1⟩ := at_T51 HR1.out x8_1 p167 q167
        have hw167_1 := hx167_1
        have hw167_0 := hx167_0
        cases e167
        replace hx167_0 := cel HB hx167_0
        replace hx167_1 := cel HB hx167_1
        replace p167 := eq_true p167
        replace q167 := eq_true q167
        refine start_ (n := 12) (S := fun w' => w'.cell? ⟨gb162, 0, none⟩ = some (.slice Ao13 x163000_1.length co13) ∧ w'.cell? (ad167.add ((x8_1).toNat * 2)) = some (.int .i64 ((rd_T51 l1 x8_1).f0)) ∧ w'.cell? ⟨(ad167.add ((x8_1).toNat * 2)).block, (ad167.add ((x8_1).toNat * 2)).off + 1, none⟩ = some (.int .i64 ((rd_T51 l1 x8_1).f1))) (ds := []) #[false, false, false, false, false, false, false, false, false, false, false, false] (by kernel_rfl) rfl rfl ⟨(blk_cell BK162.out 0).trans rfl, (cel HB hw167_0), (cel HB hw167_1)⟩ (fun hHeld => ?_); refine with_tabW spec_l6Run.tab5 spec_l6Run.bits5 (fun HT_ HW_ => ?_)
        generalize wr.drew = w14 at HO_7 HO_163000 BK162 BK163 HB hx167_0 hx167_1 hHeld ⊢
        refine pure_ (i := 1) (N := some 20) (v := ?_) (a' := ?_) #[false, true, false, false, false, false, false, false, false, false, false, false] rfl rfl (any_of HT_.out (by kernel_rfl)) (fun _ _ _ h => h) (Or.inl ⟨by rfl, ?_⟩) ?_ ?_
        rotate_left
        ·intro w'
         go_simp
         with_reducible rfl
        rotate_left
        ·simp only [Act.put, List.setIfInBounds_toArray, List.set_cons_zero, List.set_cons_succ, i64_w, i32_w]
         rfl
        refine pure_ (i := 2) (N := some 21) (v := ?_) (a' := ?_) #[false, true, true, false, false, false, false, false, false, false, false, false] rfl rfl (any_of HT_.out (by kernel_rfl)) (fun _ _ _ h => h) (Or.inl ⟨by rfl, ?_⟩) ?_ ?_
        rotate_left
        ·intro w'
         go_simp
         with_reducible rfl
        rotate_left
        ·simp only [Act.put, List.setIfInBounds_toArray, List.set_cons_zero, List.set_cons_succ, i64_w, i32_w]
         rfl
        refine pure_ (i := 3) (N := some 22) (v := ?_) (a' := ?_) #[false, true, true, true, false, false, false, false, false, false, false, false] rfl rfl (any_of HT_.out (by kernel_rfl)) (fun _ _ _ h => h) (Or.inl ⟨by rfl, ?_⟩) ?_ ?_
        rotate_left
        ·intro w'
         go_simp
         with_reducible rfl
        rotate_left
        ·simp only [Act.put, List.setIfInBounds_toArray, List.set_cons_zero, List.set_cons_succ, i64_w, i32_w]
         rfl
        refine take_ (i := 0) (N := some 19) (v := ?_) (a' := ?_) #[true, true, true, true, false, false, false, false, false, false, false, false] rfl rfl (take_ofW HT_.out HW_.out (by kernel_rfl)) (fun _ _ _ h => h) (Or.inl ⟨by rfl, ?_⟩) hHeld ?_ ?_
        rotate_left
        ·rintro w' ⟨s0, s1, s2⟩
         go_simp
         with_reducible rfl
        rotate_left
        ·simp only [Act.put, List.setIfInBounds_toArray, List.set_cons_zero, List.set_cons_succ, i64_w, i32_w]
         rfl
        refine take_ (i := 4) (N := some 23) (v := ?_) (a' := ?_) #[true, true, true, true, true, false, false, false, false, false, false, false] rfl rfl (take_ofW HT_.out HW_.out (by kernel_rfl)) (fun _ _ _ h => h) (Or.inl ⟨by rfl, ?_⟩) hHeld ?_ ?_
        rotate_left
        ·rintro w' ⟨s0, s1, s2⟩
         go_simp
         with_reducible rfl
        rotate_left
        ·simp only [Act.put, List.setIfInBounds_toArray, List.set_cons_zero, List.set_cons_succ, i64_w, i32_w]
         rfl
        refine join_ (σ := Value × Nat) 2 #[true, true, true, true, true, true, true, true, true, true, false, false] (fun s_ => [(24, .tuple #[.agg #[s_.1], .bool true]), (9, .pointer (some ⟨s_.2, 0, none⟩)), (18, .tuple #[.agg #[s_.1], .bool true]), (25, .agg #[s_.1]), (26, .bool true)]) (fun s_ w' => (w'.cell? ⟨gb162, 0, none⟩ = some (.slice Ao13 x163000_1.length co13) ∧ w'.cell? (ad167.add ((x8_1).toNat * 2)) = some (.int .i64 ((rd_T51 l1 x8_1).f0)) ∧ w'.cell? ⟨(ad167.add ((x8_1).toNat * 2)).block, (ad167.add ((x8_1).toNat * 2)).off + 1, none⟩ = some (.int .i64 ((rd_T51 l1 x8_1).f1))) ∧ (Kd.V (Kd.slice 3 (Kd.int .i64)) 29 w' w.heap.size (fun k_ => (P0_0_ k_ ∨ w.heap.size ≤ k_) ∧ some k_ ≠ (u7 : Value).ownBlock ∧ k_ ≠ gb162 ∧ k_ ≠ gb163 ∧ k_ ≠ s_.2) s_.1 t168) ∧ (Kd.V (Kd.slice 3 (Kd.int .i64)) 29 w' w.heap.size (fun k_ => (P0_0_ k_ ∨ w.heap.size ≤ k_) ∧ some k_ ≠ (u7 : Value).ownBlock ∧ k_ ≠ gb162 ∧ k_ ≠ gb163 ∧ k_ ≠ s_.2) (.slice Ao13 x163000_1.length co13) x163000_1) ∧ (Kd.R (Kd.int .i64) 3 w' w.heap.size (fun k_ => (w.heap.size ≤ k_)) u7 x7_1) ∧ (w'.heap[gb162]? = some (.cells #[.slice Ao13 x163000_1.length co13] 28 (0, 0))) ∧ (w'.heap[gb163]? = some (.cells #[.slice none 0 0] 28 (0, 0))) ∧ (w'.heap[s_.2]? = some (.cells #[.slice none 0 0] 28 (0, 0))) ∧ (w.heap.size ≤ s_.2) ∧ (w.heap.size ≤ s_.2) ∧ (gb162 ≠ s_.2) ∧ (s_.2 ≠ gb162) ∧ (gb163 ≠ s_.2) ∧ (s_.2 ≠ gb163) ∧ (Below w.heap.size w w')) ?_ ?_
        rotate_left
        ·intro hCont
         refine two_ (i := 5) (j := 9) (Ni := some 24) (Nj := some 9) #[true, true, true, true, true, true, false, false, false, false, false, false] #[true, true, true, true, true, false, false, false, false, true, false, false] rfl rfl rfl rfl (two_of HT_.out (by kernel_rfl)) (by decide) (by decide) (fun K hK => ?_) (fun K hK => ?_)
         ·skip
          refine goes_ Try.func45 (by kernel_rfl) rfl #[.agg #[.slice Ao13 x163000_1.length co13], .agg #[.int .i64 ((rd_T51 l1 x8_1).f0), .int .i64 ((rd_T51 l1 x8_1).f1)]] (by rfl) rfl rfl gmp ?_
          with_reducible refine (spec_l6Step.calls k1 (fun k_ => ((P0_0_ k_ ∨ w.heap.size ≤ k_) ∧ (some k_ ≠ (u7 : Value).ownBlock ∧ (k_ ≠ gb162 ∧ k_ ≠ gb163)))) _ _ x163000_1 ((rd_T51 l1 x8_1).f0) ((rd_T51 l1 x8_1).f1) t168 true _ ?side1 A9.out).mono ?_
          (case side1 => exact HO_163000.out)
          rintro e w15 ⟨v169, rfl, ho0, hb⟩
          refine ⟨_, rfl, ?_⟩
          have n0_ := Aside0.mk (Kd.R_below (rdl HO_7) hb)
          have n1_ := Aside0.mk (Kd.V_below (by (with_reducible repeat (first | apply Kd.V_alloc | apply Kd.V_drewN | apply Kd.V_drew)); exact HO_163000.out) hb)
          have n2_ := Aside0.mk (Kd.V_lower (Kd.V_mono (ok' := fun k_ => (P0_0_ k_ ∨ w.heap.size ≤ k_) ∧ some k_ ≠ (u7 : Value).ownBlock ∧ k_ ≠ gb162 ∧ k_ ≠ gb163) ho0 (fun k_ hk_ => ⟨Or.elim hk_ (fun hs_ => hs_.1) (fun hn_ => (.inr (Nat.le_trans (below_size (bel2 HB GE162 GE163)) hn_))), Or.elim hk_ (fun hs_ => hs_.2.1) (fun hn_ => (Kd.fresh' (Kd.R_lt (rdl HO_7)) k_ hn_)), Or.elim hk_ (fun hs_ => hs_.2.2.1) (fun hn_ => (Kd.freshB (g := gb162) (o := .cells #[.slice Ao13 x163000_1.length co13] 28 (0, 0)) (bkl BK162) k_ hn_)), Or.elim hk_ (fun hs_ => hs_.2.2.2) (fun hn_ => (Kd.freshB (g := gb163) (o := .cells #[.slice none 0 0] 28 (0, 0)) (bkl BK163) k_ hn_))⟩)) (below_size (bel2 HB GE162 GE163)))
          have n3_ := Aside0.mk (blk_below (g := gb162) (o := .cells #[.slice Ao13 x163000_1.length co13] 28 (0, 0)) (bkl BK162) hb)
          have n4_ := Aside0.mk (blk_below (g := gb163) (o := .cells #[.slice none 0 0] 28 (0, 0)) (bkl BK163) hb)
          have n5_ := Aside0.mk (below_step (bel2 HB GE162 GE163) hb)
          clear HO_7
          clear HO_163000
          clear BK162
          clear BK163
          clear HB
          have HO_7 := n0_
          have HO_163000 := n1_
          have HO170 := n2_
          have BK162 := n3_
          have BK163 := n4_
          have HB := n5_
          clear n0_ n1_ n2_ n3_ n4_ n5_
          (try clear hb)
          (try clear hb2)
          (try clear hk)
          (try clear hi)
          (try clear ho0)
          refine hK.out _ _ ⟨(blk_cell BK162.out 0).trans rfl, (cel HB hw167_0), (cel HB hw167_1)⟩ (fun hHeld => ?_)
          clear hK K
          refine norm_ (a' := ?_) ?_ ?_
          rotate_left
          ·show Act.put _ (some 24) _ = _
           simp only [Act.put, List.setIfInBounds_toArray, List.set_cons_zero, List.set_cons_succ, i64_w, i32_w]
           rfl
          refine pure_ (i := 6) (N := some 18) (v := ?_) (a' := ?_) #[true, true, true, true, true, true, true, false, false, false, false, false] rfl rfl (any_of HT_.out (by kernel_rfl)) (fun _ _ _ h => h) (Or.inl ⟨by rfl, ?_⟩) ?_ ?_
          rotate_left
          ·intro w'
           go_simp
           with_reducible rfl
          rotate_left
          ·simp only [Act.put, List.setIfInBounds_toArray, List.set_cons_zero, List.set_cons_succ, i64_w, i32_w]
           rfl
          refine pure_ (i := 7) (N := some 25) (v := ?_) (a' := ?_) #[true, true, true, true, true, true, true, true, false, false, false, false] rfl rfl (any_of HT_.out (by kernel_rfl)) (fun _ _ _ h => h) (Or.inl ⟨by rfl, ?_⟩) ?_ ?_
          rotate_left
          ·intro w'
           go_simp
           with_reducible rfl
          rotate_left
          ·simp only [Act.put, List.setIfInBounds_toArray, List.set_cons_zero, List.set_cons_succ, i64_w, i32_w]
           rfl
          refine pure_ (i := 8) (N := some 26) (v := ?_) (a' := ?_) #[true, true, true, true, true, true, true, true, true, false, false, false] rfl rfl (any_of HT_.out (by kernel_rfl)) (fun _ _ _ h => h) (Or.inl ⟨by rfl, ?_⟩) ?_ ?_
          rotate_left
          ·intro w'
           go_simp
           with_reducible rfl
          rotate_left
          ·simp only [Act.put, List.setIfInBounds_toArray, List.set_cons_zero, List.set_cons_succ, i64_w, i32_w]
           rfl
          refine one_ (i := 9) (N := some 9) #[true, true, true, true, true, true, true, true, true, true, false, false] rfl rfl (one_of HT_.out (by kernel_rfl)) (by decide) (fun K hK => ?_)
          refine box_step ?hg (N := 9) ?hd (cs := #[.slice none 0 0]) (t := 28) ?hr ?_; (case hd => rfl); (case hg => rfl); (case hr => first | (go_simp; done) | (go_simp; rfl))
          intro gb172 hg w16 hbox hb
          have n0_ := Aside0.mk (Kd.R_below (rdl HO_7) hb)
          have n1_ := Aside0.mk (Kd.V_below (Kd.V_elderB (by (with_reducible repeat (first | apply Kd.V_alloc | apply Kd.V_drewN | apply Kd.V_drew)); exact HO_163000.out) gb172 (Nat.le_of_eq hg.symm)) hb)
          have n2_ := Aside0.mk (Kd.V_below (Kd.V_elderB (by (with_reducible repeat (first | apply Kd.V_alloc | apply Kd.V_drewN | apply Kd.V_drew)); exact HO170.out) gb172 (Nat.le_of_eq hg.symm)) hb)
          have n3_ := Aside0.mk (blk_below (g := gb162) (o := .cells #[.slice Ao13 x163000_1.length co13] 28 (0, 0)) (bkl BK162) hb)
          have n4_ := Aside0.mk (blk_below (g := gb163) (o := .cells #[.slice none 0 0] 28 (0, 0)) (bkl BK163) hb)
          have n5_ := Aside0.mk (below_step (bel2 HB GE162 GE163) hb)
          have n6_ := Aside0.mk (hbox)
          have n7_ := Aside0.mk ((by rw [hg]; exact (below_size (bel2 HB GE162 GE163)) : w.heap.size ≤ gb172))
          have n8_ := Aside0.mk ((by rw [hg]; exact (below_size (bel2 HB GE162 GE163)) : w.heap.size ≤ gb172))
          have n9_ := Aside0.mk ((by rw [hg]; exact Nat.ne_of_lt (blk_lt (g := gb162) (o := .cells #[.slice Ao13 x163000_1.length co13] 28 (0, 0)) (bkl BK162)) : gb162 ≠ gb172))
          have n10_ := Aside0.mk ((by rw [hg]; exact Nat.ne_of_gt (blk_lt (g := gb162) (o := .cells #[.slice Ao13 x163000_1.length co13] 28 (0, 0)) (bkl BK162)) : gb172 ≠ gb162))
          have n11_ := Aside0.mk ((by rw [hg]; exact Nat.ne_of_lt (blk_lt (g := gb163) (o := .cells #[.slice none 0 0] 28 (0, 0)) (bkl BK163)) : gb163 ≠ gb172))
          have n12_ := Aside0.mk ((by rw [hg]; exact Nat.ne_of_gt (blk_lt (g := gb163) (o := .cells #[.slice none 0 0] 28 (0, 0)) (bkl BK163)) : gb172 ≠ gb163))
          clear HO_7
          clear HO_163000
          clear HO170
          clear BK162
          clear BK163
          clear HB
          have HO_7 := n0_
          have HO_163000 := n1_
          have HO170 := n2_
          have BK162 := n3_
          have BK163 := n4_
          have HB := n5_
          have BK172 := n6_
          have GW172 := n7_
          have GE172 := n8_
          have NB162_172 := n9_
          have NB172_162 := n10_
          have NB163_172 := n11_
          have NB172_163 := n12_
          clear n0_ n1_ n2_ n3_ n4_ n5_ n6_ n7_ n8_ n9_ n10_ n11_ n12_
          clear hb hbox hg
          refine hK.out _ _ ⟨(blk_cell BK162.out 0).trans rfl, (cel HB hw167_0), (cel HB hw167_1)⟩ (fun hHeld => ?_)
          clear hK K
          refine norm_ (a' := ?_) ?_ ?_
          rotate_left
          ·show Act.put _ (some 9) _ = _
           simp only [Act.put, List.setIfInBounds_toArray, List.set_cons_zero, List.set_cons_succ, i64_w, i32_w]
           rfl
          exact norm_ (by simp only [putAll, Act.put, List.setIfInBounds_toArray, List.set_cons_zero, List.set_cons_succ]) (hCont (v169, gb172) _ ⟨hHeld, (by (with_reducible repeat (first | apply Kd.V_alloc | apply Kd.V_drewN | apply Kd.V_drew)); exact Kd.V_mono HO170.out (fun _ hk => ⟨hk.1.1, ⟨hk.1.2.1, ⟨hk.1.2.2.1, ⟨hk.1.2.2.2, hk.2⟩⟩⟩⟩)), (by (with_reducible repeat (first | apply Kd.V_alloc | apply Kd.V_drewN | apply Kd.V_drew)); exact Kd.V_mono HO_163000.out (fun _ hk => ⟨hk.1.1, ⟨hk.1.2.1, ⟨hk.1.2.2.1, ⟨hk.1.2.2.2, hk.2⟩⟩⟩⟩)), (rdl HO_7), (bkl BK162), (bkl BK163), (bkl BK172), GW172.out, GE172.out, NB162_172.out, NB172_162.out, NB163_172.out, NB172_163.out, (bel3 HB GE162 GE163 GE172)⟩)
         ·skip
          refine box_step ?hg (N := 9) ?hd (cs := #[.slice none 0 0]) (t := 28) ?hr ?_; (case hd => rfl); (case hg => rfl); (case hr => first | (go_simp; done) | (go_simp; rfl))
          intro gb172 hg w15 hbox hb
          have n0_ := Aside0.mk (Kd.R_below (rdl HO_7) hb)
          have n1_ := Aside0.mk (Kd.V_below (Kd.V_elderB (by (with_reducible repeat (first | apply Kd.V_alloc | apply Kd.V_drewN | apply Kd.V_drew)); exact HO_163000.out) gb172 (Nat.le_of_eq hg.symm)) hb)
          have n2_ := Aside0.mk (blk_below (g := gb162) (o := .cells #[.slice Ao13 x163000_1.length co13] 28 (0, 0)) (bkl BK162) hb)
          have n3_ := Aside0.mk (blk_below (g := gb163) (o := .cells #[.slice none 0 0] 28 (0, 0)) (bkl BK163) hb)
          have n4_ := Aside0.mk (below_step (bel2 HB GE162 GE163) hb)
          have n5_ := Aside0.mk (hbox)
          have n6_ := Aside0.mk ((by rw [hg]; exact (below_size (bel2 HB GE162 GE163)) : w.heap.size ≤ gb172))
          have n7_ := Aside0.mk ((by rw [hg]; exact (below_size (bel2 HB GE162 GE163)) : w.heap.size ≤ gb172))
          have n8_ := Aside0.mk ((by rw [hg]; exact Nat.ne_of_lt (blk_lt (g := gb162) (o := .cells #[.slice Ao13 x163000_1.length co13] 28 (0, 0)) (bkl BK162)) : gb162 ≠ gb172))
          have n9_ := Aside0.mk ((by rw [hg]; exact Nat.ne_of_gt (blk_lt (g := gb162) (o := .cells #[.slice Ao13 x163000_1.length co13] 28 (0, 0)) (bkl BK162)) : gb172 ≠ gb162))
          have n10_ := Aside0.mk ((by rw [hg]; exact Nat.ne_of_lt (blk_lt (g := gb163) (o := .cells #[.slice none 0 0] 28 (0, 0)) (bkl BK163)) : gb163 ≠ gb172))
          have n11_ := Aside0.mk ((by rw [hg]; exact Nat.ne_of_gt (blk_lt (g := gb163) (o := .cells #[.slice none 0 0] 28 (0, 0)) (bkl BK163)) : gb172 ≠ gb163))
          clear HO_7
          clear HO_163000
          clear BK162
          clear BK163
          clear HB
          have HO_7 := n0_
          have HO_163000 := n1_
          have BK162 := n2_
          have BK163 := n3_
          have HB := n4_
          have BK172 := n5_
          have GW172 := n6_
          have GE172 := n7_
          have NB162_172 := n8_
          have NB172_162 := n9_
          have NB163_172 := n10_
          have NB172_163 := n11_
          clear n0_ n1_ n2_ n3_ n4_ n5_ n6_ n7_ n8_ n9_ n10_ n11_
          clear hb hbox hg
          refine hK.out _ _ ⟨(blk_cell BK162.out 0).trans rfl, (cel HB hw167_0), (cel HB hw167_1)⟩ (fun hHeld => ?_)
          clear hK K
          refine norm_ (a' := ?_) ?_ ?_
          rotate_left
          ·show Act.put _ (some 9) _ = _
           simp only [Act.put, List.setIfInBounds_toArray, List.set_cons_zero, List.set_cons_succ, i64_w, i32_w]
           rfl
          refine one_ (i := 5) (N := some 24) #[true, true, true, true, true, true, false, false, false, true, false, false] rfl rfl (one_of HT_.out (by kernel_rfl)) (by decide) (fun K hK => ?_)
          refine goes_ Try.func45 (by kernel_rfl) rfl #[.agg #[.slice Ao13 x163000_1.length co13], .agg #[.int .i64 ((rd_T51 l1 x8_1).f0), .int .i64 ((rd_T51 l1 x8_1).f1)]] (by rfl) rfl rfl gmp ?_
          with_reducible refine (spec_l6Step.calls k1 (fun k_ => (((P0_0_ k_ ∨ w.heap.size ≤ k_) ∧ (some k_ ≠ (u7 : Value).ownBlock ∧ (k_ ≠ gb162 ∧ k_ ≠ gb163))) ∧ k_ ≠ gb172)) _ _ x163000_1 ((rd_T51 l1 x8_1).f0) ((rd_T51 l1 x8_1).f1) t168 true _ ?side1 A9.out).mono ?_
          (case side1 => exact HO_163000.out)
          rintro e w16 ⟨v169, rfl, ho0, hb⟩
          refine ⟨_, rfl, ?_⟩
          have n0_ := Aside0.mk (Kd.R_below (rdl HO_7) hb)
          have n1_ := Aside0.mk (Kd.V_below (by (with_reducible repeat (first | apply Kd.V_alloc | apply Kd.V_drewN | apply Kd.V_drew)); exact HO_163000.out) hb)
          have n2_ := Aside0.mk (Kd.V_lower (Kd.V_mono (ok' := fun k_ => (P0_0_ k_ ∨ w.heap.size ≤ k_) ∧ some k_ ≠ (u7 : Value).ownBlock ∧ k_ ≠ gb162 ∧ k_ ≠ gb163 ∧ k_ ≠ gb172) ho0 (fun k_ hk_ => ⟨Or.elim hk_ (fun hs_ => hs_.1.1) (fun hn_ => (.inr (Nat.le_trans (below_size (bel3 HB GE162 GE163 GE172)) hn_))), Or.elim hk_ (fun hs_ => hs_.1.2.1) (fun hn_ => (Kd.fresh' (Kd.R_lt (rdl HO_7)) k_ hn_)), Or.elim hk_ (fun hs_ => hs_.1.2.2.1) (fun hn_ => (Kd.freshB (g := gb162) (o := .cells #[.slice Ao13 x163000_1.length co13] 28 (0, 0)) (bkl BK162) k_ hn_)), Or.elim hk_ (fun hs_ => hs_.1.2.2.2) (fun hn_ => (Kd.freshB (g := gb163) (o := .cells #[.slice none 0 0] 28 (0, 0)) (bkl BK163) k_ hn_)), Or.elim hk_ (fun hs_ => hs_.2) (fun hn_ => (Kd.freshB (g := gb172) (o := .cells #[.slice none 0 0] 28 (0, 0)) (bkl BK172) k_ hn_))⟩)) (below_size (bel3 HB GE162 GE163 GE172)))
          have n3_ := Aside0.mk (blk_below (g := gb162) (o := .cells #[.slice Ao13 x163000_1.length co13] 28 (0, 0)) (bkl BK162) hb)
          have n4_ := Aside0.mk (blk_below (g := gb163) (o := .cells #[.slice none 0 0] 28 (0, 0)) (bkl BK163) hb)
          have n5_ := Aside0.mk (blk_below (g := gb172) (o := .cells #[.slice none 0 0] 28 (0, 0)) (bkl BK172) hb)
          have n6_ := Aside0.mk (below_step (bel3 HB GE162 GE163 GE172) hb)
          clear HO_7
          clear HO_163000
          clear BK162
          clear BK163
          clear BK172
          clear HB
          have HO_7 := n0_
          have HO_163000 := n1_
          have HO170 := n2_
          have BK162 := n3_
          have BK163 := n4_
          have BK172 := n5_
          have HB := n6_
          clear n0_ n1_ n2_ n3_ n4_ n5_ n6_
          (try clear hb)
          (try clear hb2)
          (try clear hk)
          (try clear hi)
          (try clear ho0)
          refine hK.out _ _ ⟨(blk_cell BK162.out 0).trans rfl, (cel HB hw167_0), (cel HB hw167_1)⟩ (fun hHeld => ?_)
          clear hK K
          refine norm_ (a' := ?_) ?_ ?_
          rotate_left
          ·show Act.put _ (some 24) _ = _
           simp only [Act.put, List.setIfInBounds_toArray, List.set_cons_zero, List.set_cons_succ, i64_w, i32_w]
           rfl
          refine pure_ (i := 6) (N := some 18) (v := ?_) (a' := ?_) #[true, true, true, true, true, true, true, false, false, true, false, false] rfl rfl (any_of HT_.out (by kernel_rfl)) (fun _ _ _ h => h) (Or.inl ⟨by rfl, ?_⟩) ?_ ?_
          rotate_left
          ·intro w'
           go_simp
           with_reducible rfl
          rotate_left
          ·simp only [Act.put, List.setIfInBounds_toArray, List.set_cons_zero, List.set_cons_succ, i64_w, i32_w]
           rfl
          refine pure_ (i := 7) (N := some 25) (v := ?_) (a' := ?_) #[true, true, true, true, true, true, true, true, false, true, false, false] rfl rfl (any_of HT_.out (by kernel_rfl)) (fun _ _ _ h => h) (Or.inl ⟨by rfl, ?_⟩) ?_ ?_
          rotate_left
          ·intro w'
           go_simp
           with_reducible rfl
          rotate_left
          ·simp only [Act.put, List.setIfInBounds_toArray, List.set_cons_zero, List.set_cons_succ, i64_w, i32_w]
           rfl
          refine pure_ (i := 8) (N := some 26) (v := ?_) (a' := ?_) #[true, true, true, true, true, true, true, true, true, true, false, false] rfl rfl (any_of HT_.out (by kernel_rfl)) (fun _ _ _ h => h) (Or.inl ⟨by rfl, ?_⟩) ?_ ?_
          rotate_left
          ·intro w'
           go_simp
           with_reducible rfl
          rotate_left
          ·simp only [Act.put, List.setIfInBounds_toArray, List.set_cons_zero, List.set_cons_succ, i64_w, i32_w]
           rfl
          exact norm_ (by simp only [putAll, Act.put, List.setIfInBounds_toArray, List.set_cons_zero, List.set_cons_succ]) (hCont (v169, gb172) _ ⟨hHeld, (by (with_reducible repeat (first | apply Kd.V_alloc | apply Kd.V_drewN | apply Kd.V_drew)); exact HO170.out), (by (with_reducible repeat (first | apply Kd.V_alloc | apply Kd.V_drewN | apply Kd.V_drew)); exact Kd.V_mono HO_163000.out (fun _ hk => ⟨hk.1.1, ⟨hk.1.2.1, ⟨hk.1.2.2.1, ⟨hk.1.2.2.2, hk.2⟩⟩⟩⟩)), (rdl HO_7), (bkl BK162), (bkl BK163), (bkl BK172), GW172.out, GE172.out, NB162_172.out, NB172_162.out, NB163_172.out, NB172_163.out, (bel3 HB GE162 GE163 GE172)⟩)
        rintro ⟨v169, gb172⟩ w17 ⟨hS_, h0_, h1_, h2_, h3_, h4_, h5_, h6_, h7_, h8_, h9_, h10_, h11_, h12_⟩
        have n0_ : Aside0 (Kd.V (Kd.slice 3 (Kd.int .i64)) 29 w17 w.heap.size (fun k_ => (P0_0_ k_ ∨ w.heap.size ≤ k_) ∧ some k_ ≠ (u7 : Value).ownBlock ∧ k_ ≠ gb162 ∧ k_ ≠ gb163 ∧ k_ ≠ gb172) v169 t168) := ⟨h0_⟩
        have n1_ : Aside0 (Kd.V (Kd.slice 3 (Kd.int .i64)) 29 w17 w.heap.size (fun k_ => (P0_0_ k_ ∨ w.heap.size ≤ k_) ∧ some k_ ≠ (u7 : Value).ownBlock ∧ k_ ≠ gb162 ∧ k_ ≠ gb163 ∧ k_ ≠ gb172) (.slice Ao13 x163000_1.length co13) x163000_1) := ⟨h1_⟩
        have n2_ : Aside0 (Kd.R (Kd.int .i64) 3 w17 w.heap.size (fun k_ => (w.heap.size ≤ k_)) u7 x7_1) := ⟨h2_⟩
        have n3_ : Aside0 (w17.heap[gb162]? = some (.cells #[.slice Ao13 x163000_1.length co13] 28 (0, 0))) := ⟨h3_⟩
        have n4_ : Aside0 (w17.heap[gb163]? = some (.cells #[.slice none 0 0] 28 (0, 0))) := ⟨h4_⟩
        have n5_ : Aside0 (w17.heap[gb172]? = some (.cells #[.slice none 0 0] 28 (0, 0))) := ⟨h5_⟩
        have n6_ : Aside0 (w.heap.size ≤ gb172) := ⟨h6_⟩
        have n7_ : Aside0 (w.heap.size ≤ gb172) := ⟨h7_⟩
        have n8_ : Aside0 (gb162 ≠ gb172) := ⟨h8_⟩
        have n9_ : Aside0 (gb172 ≠ gb162) := ⟨h9_⟩
        have n10_ : Aside0 (gb163 ≠ gb172) := ⟨h10_⟩
        have n11_ : Aside0 (gb172 ≠ gb163) := ⟨h11_⟩
        have n12_ : Aside0 (Below w.heap.size w w17) := ⟨h12_⟩
        clear HO_7
        clear HO_163000
        clear BK162
        clear BK163
        clear HB
        clear h0_ h1_ h2_ h3_ h4_ h5_ h6_ h7_ h8_ h9_ h10_ h11_ h12_
        have HO170 := n0_
        have HO_163000 := n1_
        have HO_7 := n2_
        have BK162 := n3_
        have BK163 := n4_
        have BK172 := n5_
        have GW172 := n6_
        have GE172 := n7_
        have NB162_172 := n8_
        have NB172_162 := n9_
        have NB163_172 := n10_
        have NB172_163 := n11_
        have HB := n12_
        clear n0_ n1_ n2_ n3_ n4_ n5_ n6_ n7_ n8_ n9_ n10_ n11_ n12_
        have hHeld : w17.cell? ⟨gb162, 0, none⟩ = some (.slice Ao13 x163000_1.length co13) ∧ w17.cell? (ad167.add ((x8_1).toNat * 2)) = some (.int .i64 ((rd_T51 l1 x8_1).f0)) ∧ w17.cell? ⟨(ad167.add ((x8_1).toNat * 2)).block, (ad167.add ((x8_1).toNat * 2)).off + 1, none⟩ = some (.int .i64 ((rd_T51 l1 x8_1).f1)) := hS_
        obtain ⟨Ao18, co18, eo18⟩ := Kd.V_slice HO170.out
        (first | subst eo18 | (injection eo18 with f1_ f2_ f3_; have f4_ := f1_.symm; have f5_ := f3_.symm; clear f1_ f2_ f3_; subst f4_; subst f5_))
        refine norm_ (a' := ?_) ?_ ?_
        rotate_left
        ·simp only [putAll, Act.put, List.setIfInBounds_toArray, List.set_cons_zero, List.set_cons_succ]
         rfl
        refine one_ (i := 10) (N := none) #[true, true, true, true, true, true, true, true, true, true, true, false] rfl rfl (one_of HT_.out (by kernel_rfl)) (by decide) (fun K hK => ?_)
        have hs19 : w17.cell? ⟨gb172, 0, none⟩ = some (.slice none 0 0) := (blk_cell BK172.out 0).trans rfl
        have hfs19 := blk_frozen BK172.out 0
        have hns19_0 := NB162_172.out
        have hns19_1 := NB163_172.out
        have hms19_0 := NB172_162.out
        have hms19_1 := NB172_163.out
        refine skip_ (w1 := ?_) (by rfl) rfl ?_ ?_
        rotate_left
        ·go_simp
         rfl
        refine hK.out _ _ ⟨((cell_far (p := ⟨gb172, _, none⟩) NB162_172.out _).trans (hHeld.1)), ((cell_far (p := ⟨gb172, _, none⟩) (by first | exact Nat.ne_of_lt (Nat.lt_of_lt_of_le (by have := World.block_lt_of_cell? _ _ hw167_0; first | rwa [add_block] at this | exact this) GW172.out) | (rw [add_block]; exact Nat.ne_of_lt (Nat.lt_of_lt_of_le (by have := World.block_lt_of_cell? _ _ hw167_0; first | rwa [add_block] at this | exact this) GW172.out)) | (show (Addr.add _ _).block ≠ _; rw [add_block]; exact Nat.ne_of_lt (Nat.lt_of_lt_of_le (by have := World.block_lt_of_cell? _ _ hw167_0; first | rwa [add_block] at this | exact this) GW172.out)) | (dsimp only; exact Nat.ne_of_lt (Nat.lt_of_lt_of_le (by have := World.block_lt_of_cell? _ _ hw167_0; first | rwa [add_block] at this | exact this) GW172.out))) _).trans (hHeld.2.1)), ((cell_far (p := ⟨gb172, _, none⟩) (by first | exact Nat.ne_of_lt (Nat.lt_of_lt_of_le (by have := World.block_lt_of_cell? _ _ hw167_1; first | rwa [add_block] at this | exact this) GW172.out) | (rw [add_block]; exact Nat.ne_of_lt (Nat.lt_of_lt_of_le (by have := World.block_lt_of_cell? _ _ hw167_1; first | rwa [add_block] at this | exact this) GW172.out)) | (show (Addr.add _ _).block ≠ _; rw [add_block]; exact Nat.ne_of_lt (Nat.lt_of_lt_of_le (by have := World.block_lt_of_cell? _ _ hw167_1; first | rwa [add_block] at this | exact this) GW172.out)) | (dsimp only; exact Nat.ne_of_lt (Nat.lt_of_lt_of_le (by have := World.block_lt_of_cell? _ _ hw167_1; first | rwa [add_block] at this | exact this) GW172.out))) _).trans (hHeld.2.2))⟩ (fun hHeld => ?_)
        clear hK K
        refine pure_ (i := 11) (N := some 10) (v := ?_) (a' := ?_) #[true, true, true, true, true, true, true, true, true, true, true, true] rfl rfl (any_of HT_.out (by kernel_rfl)) (fun _ _ _ h => h) (Or.inl ⟨by rfl, ?_⟩) ?_ ?_
        rotate_left
        ·intro w'
         go_simp
         with_reducible rfl
        rotate_left
        ·simp only [Act.put, List.setIfInBounds_toArray, List.set_cons_zero, List.set_cons_succ, i64_w, i32_w]
         rfl
        refine done_ (done_of HT_.out (by kernel_rfl)) ?_
        have hnb20 := NB172_162.out
        have hnc20 := NB162_172.out
        have hnb21 := NB172_163.out
        have hnc21 := NB163_172.out
        have hcz22_0 : w17.cell? ⟨gb172, 0, none⟩ = some (.slice none 0 0) := (blk_cell BK172.out 0).trans rfl
        have hfz22_0 := blk_frozen BK172.out 0
        have hnb23 := NB162_163.out
        have hnc23 := NB163_162.out
        have hcz24_0 : w17.cell? ⟨gb162, 0, none⟩ = some (.slice Ao13 x163000_1.length co13) := (blk_cell BK162.out 0).trans rfl
        have hfz24_0 := blk_frozen BK162.out 0
        have p173 : 0 ≤ (x8_1 : Int) := oda
        have q173 : x8_1 < (l1.length : Int) := oda
        obtain ⟨ad173, e173, hx173_0, hx173_1⟩ := at_T51 HR1.out x8_1 p173 q173
        obtain rfl : ad167 = ad173 := (by injection e173)
        have hn173_0 : ad167.block ≠ gb172 := Nat.ne_of_lt (Nat.lt_of_lt_of_le (by have := World.block_lt_of_cell? _ _ hx173_0; first | rwa [add_block] at this | exact this) GW172.out)
        have hn173_1 : ad167.block ≠ gb162 := Nat.ne_of_lt (Nat.lt_of_lt_of_le (by have := World.block_lt_of_cell? _ _ hx173_0; first | rwa [add_block] at this | exact this) GW162.out)
        replace hx173_0 := cel HB hx173_0
        replace hx173_1 := cel HB hx173_1
        replace hx173_0 := (cell_far (p := ⟨gb172, 0, none⟩) (by first | (rw [add_block]; exact hn173_0) | (show (Addr.add _ _).block ≠ _; rw [add_block]; exact hn173_0) | exact hn173_0) (.slice Ao18 t168.length co18)).trans hx173_0
        replace hx173_1 := (cell_far (p := ⟨gb172, 0, none⟩) (by first | (rw [add_block]; exact hn173_0) | (show (Addr.add _ _).block ≠ _; rw [add_block]; exact hn173_0) | exact hn173_0) (.slice Ao18 t168.length co18)).trans hx173_1
        replace hx173_0 := (cell_far (p := ⟨gb162, 0, none⟩) (by first | (rw [add_block]; exact hn173_1) | (show (Addr.add _ _).block ≠ _; rw [add_block]; exact hn173_1) | exact hn173_1) (.slice Ao18 t168.length co18)).trans hx173_0
        replace hx173_1 := (cell_far (p := ⟨gb162, 0, none⟩) (by first | (rw [add_block]; exact hn173_1) | (show (Addr.add _ _).block ≠ _; rw [add_block]; exact hn173_1) | exact hn173_1) (.slice Ao18 t168.length co18)).trans hx173_1
        clear hn173_0
        clear hn173_1
        replace p173 := eq_true p173
        replace q173 := eq_true q173
        have p174 : 0 ≤ (x8_1 : Int) := oda
        have q174 : x8_1 < (l1.length : Int) := oda
        obtain ⟨ad174, e174, hx174_0, hx174_1⟩ := at_T51 HR1.out x8_1 p174 q174
        obtain rfl : ad167 = ad174 := (by injection e174)
        have hn174_0 : ad167.block ≠ gb172 := Nat.ne_of_lt (Nat.lt_of_lt_of_le (by have := World.block_lt_of_cell? _ _ hx174_0; first | rwa [add_block] at this | exact this) GW172.out)
        have hn174_1 : ad167.block ≠ gb162 := Nat.ne_of_lt (Nat.lt_of_lt_of_le (by have := World.block_lt_of_cell? _ _ hx174_0; first | rwa [add_block] at this | exact this) GW162.out)
        replace hx174_0 := cel HB hx174_0
        replace hx174_1 := cel HB hx174_1
        replace hx174_0 := (cell_far (p := ⟨gb172, 0, none⟩) (by first | (rw [add_block]; exact hn174_0) | (show (Addr.add _ _).block ≠ _; rw [add_block]; exact hn174_0) | exact hn174_0) (.slice Ao18 t168.length co18)).trans hx174_0
        replace hx174_1 := (cell_far (p := ⟨gb172, 0, none⟩) (by first | (rw [add_block]; exact hn174_0) | (show (Addr.add _ _).block ≠ _; rw [add_block]; exact hn174_0) | exact hn174_0) (.slice Ao18 t168.length co18)).trans hx174_1
        replace hx174_0 := (cell_far (p := ⟨gb162, 0, none⟩) (by first | (rw [add_block]; exact hn174_1) | (show (Addr.add _ _).block ≠ _; rw [add_block]; exact hn174_1) | exact hn174_1) (.slice Ao18 t168.length co18)).trans hx174_0
        replace hx174_1 := (cell_far (p := ⟨gb162, 0, none⟩) (by first | (rw [add_block]; exact hn174_1) | (show (Addr.add _ _).block ≠ _; rw [add_block]; exact hn174_1) | exact hn174_1) (.slice Ao18 t168.length co18)).trans hx174_1
        clear hn174_0
        clear hn174_1
        replace p174 := eq_true p174
        replace q174 := eq_true q174
        try go_wp2_with (first | ((with_reducible refine gate_builtin (b := .append) (xs := #[.tmp 38, .tmp 44]) rfl ?_); at_builtin; refine Kd.R_append (Kd.int .i64) (w0 := w) w.heap.size rfl (.tmp 38) (.tmp 44) 29 3 (.int .i64 0) 8 rfl Try.underlying29 info3 rfl (by decide) (by omega) u7 x7_1 ((rd_T51 l1 x8_1).f0) [.int .i64 ((rd_T51 l1 x8_1).f0)] (fun k_ => (w.heap.size ≤ k_)) (fun _ => False) rfl (by first | (go_simp; done) | (go_simp; rfl)) ?aP (fun _ hk => hk.elim) ?aF ?aO ?aB ?aS ?aL ?_; (case aP => exact rfl); (case aB => exact (bel3 HB GE162 GE163 GE172)); (case aF => exact (fun k_ hk => (Nat.le_trans (below_size (bel3 HB GE162 GE163 GE172)) hk))); (case aO => exact (by (with_reducible repeat (first | apply Kd.R_alloc | apply Kd.R_drewN | apply Kd.R_drew)); exact Kd.R_mono (Kd.R_far (p := ⟨gb162, 0, none⟩) (Kd.R_far (p := ⟨gb172, 0, none⟩) (Kd.R_types (Kd.R_types HO_7.out BK172.out (by decide)) BK162.out (by decide)) (fun _ hk => hk.1.2) (.slice Ao18 t168.length co18)) (fun _ hk => hk.2) (.slice Ao18 t168.length co18)) (fun _ hk => hk.1.1))); (case aS => exact (below_size (bel3 HB GE162 GE163 GE172))); (case aL => have := LMc12.out; omega); intro v176 w25 ho hb hg hat; rw [← Ny175.out] at ho; have n0_ := Aside0.mk (Kd.V_afterv (ok := (fun k_ => (P0_0_ k_ ∨ w.heap.size ≤ k_) ∧ k_ ≠ gb162 ∧ k_ ≠ gb163 ∧ k_ ≠ gb172)) (by (with_reducible repeat (first | apply Kd.V_alloc | apply Kd.V_drewN | apply Kd.V_drew)); exact Kd.V_mono (Kd.V_far (p := ⟨gb162, 0, none⟩) (Kd.V_far (p := ⟨gb172, 0, none⟩) (Kd.V_mono (Kd.V_mono HO_163000.out (fun k_ hk => (⟨hk, hk.2.2.2.2⟩ : _ ∧ k_ ≠ gb172))) (fun k_ hk => (⟨hk, hk.1.2.2.1⟩ : _ ∧ k_ ≠ gb162))) (fun _ hk => hk.1.2) (.slice Ao18 t168.length co18)) (fun _ hk => hk.2) (.slice Ao18 t168.length co18)) (fun _ hk => ⟨⟨hk.1.1.1, ⟨hk.1.1.2.2.1, ⟨hk.1.1.2.2.2.1, hk.1.1.2.2.2.2⟩⟩⟩, hk.1.1.2.1⟩)) hg hat); have n1_ := Aside0.mk (blk_grown (g := gb162) (o := .cells #[.slice Ao18 t168.length co18] 28 (0, 0)) (by (with_reducible repeat (first | refine blk_drewN ?_ _ | refine blk_drew ?_ | refine blk_alloc ?_ _)); refine blk_put (cs := #[.slice Ao13 x163000_1.length co13]) ?_ 0 _ rfl; (with_reducible repeat (first | refine blk_drewN ?_ _ | refine blk_drew ?_ | refine blk_alloc ?_ _)); refine blk_far ?_ NB162_172.out _; (with_reducible repeat (first | refine blk_drewN ?_ _ | refine blk_drew ?_ | refine blk_alloc ?_ _)); exact BK162.out) hg (Kd.R_ne HO_7.out BK162.out (by decide))); have n2_ := Aside0.mk (blk_grown (g := gb163) (o := .cells #[.slice none 0 0] 28 (0, 0)) (by (with_reducible repeat (first | refine blk_drewN ?_ _ | refine blk_drew ?_ | refine blk_alloc ?_ _)); refine blk_far ?_ NB163_162.out _; (with_reducible repeat (first | refine blk_drewN ?_ _ | refine blk_drew ?_ | refine blk_alloc ?_ _)); refine blk_far ?_ NB163_172.out _; (with_reducible repeat (first | refine blk_drewN ?_ _ | refine blk_drew ?_ | refine blk_alloc ?_ _)); exact BK163.out) hg (Kd.R_ne HO_7.out BK163.out (by decide))); have n3_ := Aside0.mk (Kd.V_afterv (ok := (fun k_ => (P0_0_ k_ ∨ w.heap.size ≤ k_) ∧ k_ ≠ gb162 ∧ k_ ≠ gb163 ∧ k_ ≠ gb172)) (by (with_reducible repeat (first | apply Kd.V_alloc | apply Kd.V_drewN | apply Kd.V_drew)); exact Kd.V_mono (Kd.V_far (p := ⟨gb162, 0, none⟩) (Kd.V_far (p := ⟨gb172, 0, none⟩) (Kd.V_mono (Kd.V_mono HO170.out (fun k_ hk => (⟨hk, hk.2.2.2.2⟩ : _ ∧ k_ ≠ gb172))) (fun k_ hk => (⟨hk, hk.1.2.2.1⟩ : _ ∧ k_ ≠ gb162))) (fun _ hk => hk.1.2) (.slice Ao18 t168.length co18)) (fun _ hk => hk.2) (.slice Ao18 t168.length co18)) (fun _ hk => ⟨⟨hk.1.1.1, ⟨hk.1.1.2.2.1, ⟨hk.1.1.2.2.2.1, hk.1.1.2.2.2.2⟩⟩⟩, hk.1.1.2.1⟩)) hg hat); have n4_ := Aside0.mk (blk_grown (g := gb172) (o := .cells #[.slice Ao18 t168.length co18] 28 (0, 0)) (by (with_reducible repeat (first | refine blk_drewN ?_ _ | refine blk_drew ?_ | refine blk_alloc ?_ _)); refine blk_far ?_ NB172_162.out _; (with_reducible repeat (first | refine blk_drewN ?_ _ | refine blk_drew ?_ | refine blk_alloc ?_ _)); refine blk_put (cs := #[.slice none 0 0]) ?_ 0 _ rfl; (with_reducible repeat (first | refine blk_drewN ?_ _ | refine blk_drew ?_ | refine blk_alloc ?_ _)); exact BK172.out) hg (Kd.R_ne HO_7.out BK172.out (by decide))); have n5_ := Aside0.mk (hb); have n6_ := Aside0.mk (ho); clear HO_163000; clear BK162; clear BK163; clear HO170; clear BK172; clear HB; clear HO_7; have HO_163000 := n0_; have BK162 := n1_; have BK163 := n2_; have HO170 := n3_; have BK172 := n4_; have HB := n5_; have HO177 := n6_; clear n0_ n1_ n2_ n3_ n4_ n5_ n6_; clear ho hb hg hat))
        go_roundg k1
        case measure => have := HK1.out; omega
        case rel => exact ⟨(y175), (wrap64 (x8_1 + 1)), (t168), (.slice Ao18 t168.length co18), (by first | rfl | (simp; done) | (simp [*]; done)), H', ⟨by have := HK1.out; omega⟩, ⟨rdl HO177⟩, ⟨by (with_reducible repeat (first | apply Kd.V_alloc | apply Kd.V_drewN | apply Kd.V_drew)); exact Kd.V_mono HO170.out (fun _ hk => ⟨hk.1.1, ⟨hk.2, ⟨hk.1.2.1, hk.1.2.2.1⟩⟩⟩)⟩, ⟨bkl BK162⟩, ⟨bkl BK163⟩, ⟨bel3 HB GE162 GE163 GE172⟩⟩
       ·rw [if_neg c12] at H
        exact absurd H (by simp)
      ·rw [if_neg c11] at H
       have c11b0 : (((rd_T51 l1 x8_1).f1) == (-1)) = false := beq_eq_false_iff_ne.mpr c11
       have c11b1 : (((rd_T51 l1 x8_1).f1) != (-1)) = true := bne_iff_ne.mpr c11
       have H' := Aside0.mk H
       clear H
       obtain ⟨Ao26, co26, eo26⟩ := Kd.V_slice HO_163000.out
       subst eo26
       try go_wp2
       have n0_ := Aside0.mk (Kd.R_drew HO_7.out)
       have n1_ := Aside0.mk (Kd.V_drew HO_163000.out)
       have n2_ := Aside0.mk (blk_drew BK162.out)
       have n3_ := Aside0.mk (blk_drew BK163.out)
       have n4_ := Aside0.mk (below_drew1 HB.out)
       clear HO_7
       clear HO_163000
       clear BK162
       clear BK163
       clear HB
       have HO_7 := n0_
       have HO_163000 := n1_
       have BK162 := n2_
       have BK163 := n3_
       have HB := n4_
       clear n0_ n1_ n2_ n3_ n4_
       have p167 : 0 ≤ (x8_1 : Int) := oda
       have q167 : x8_1 < (l1.length : Int) := oda
       obtain ⟨ad167, e167, hx167_0, hx167_1⟩ := at_T51 HR1.out x8_1 p167 q167
       have hw167_1 := hx167_1
       have hw167_0 := hx167_0
       cases e167
       replace hx167_0 := cel HB hx167_0
       replace hx167_1 := cel HB hx167_1
       replace p167 := eq_true p167
       replace q167 := eq_true q167
       refine start_ (n := 12) (S := fun w' => w'.cell? ⟨gb162, 0, none⟩ = some (.slice Ao26 x163000_1.length co26) ∧ w'.cell? (ad167.add ((x8_1).toNat * 2)) = some (.int .i64 ((rd_T51 l1 x8_1).f0)) ∧ w'.cell? ⟨(ad167.add ((x8_1).toNat * 2)).block, (ad167.add ((x8_1).toNat * 2)).off + 1, none⟩ = some (.int .i64 ((rd_T51 l1 x8_1).f1))) (ds := []) #[false, false, false, false, false, false, false, false, false, false, false, false] (by kernel_rfl) rfl rfl ⟨(blk_cell BK162.out 0).trans rfl, (cel HB hw167_0), (cel HB hw167_1)⟩ (fun hHeld => ?_); refine with_tabW spec_l6Run.tab5 spec_l6Run.bits5 (fun HT_ HW_ => ?_)
       generalize wr.drew = w27 at HO_7 HO_163000 BK162 BK163 HB hx167_0 hx167_1 hHeld ⊢
       refine pure_ (i := 1) (N := some 20) (v := ?_) (a' := ?_) #[false, true, false, false, false, false, false, false, false, false, false, false] rfl rfl (any_of HT_.out (by kernel_rfl)) (fun _ _ _ h => h) (Or.inl ⟨by rfl, ?_⟩) ?_ ?_
       rotate_left
       ·intro w'
        go_simp
        with_reducible rfl
       rotate_left
       ·simp only [Act.put, List.setIfInBounds_toArray, List.set_cons_zero, List.set_cons_succ, i64_w, i32_w]
        rfl
       refine pure_ (i := 2) (N := some 21) (v := ?_) (a' := ?_) #[false, true, true, false, false, false, false, false, false, false, false, false] rfl rfl (any_of HT_.out (by kernel_rfl)) (fun _ _ _ h => h) (Or.inl ⟨by rfl, ?_⟩) ?_ ?_
       rotate_left
       ·intro w'
        go_simp
        with_reducible rfl
       rotate_left
       ·simp only [Act.put, List.setIfInBounds_toArray, List.set_cons_zero, List.set_cons_succ, i64_w, i32_w]
        rfl
       refine pure_ (i := 3) (N := some 22) (v := ?_) (a' := ?_) #[false, true, true, true, false, false, false, false, false, false, false, false] rfl rfl (any_of HT_.out (by kernel_rfl)) (fun _ _ _ h => h) (Or.inl ⟨by rfl, ?_⟩) ?_ ?_
       rotate_left
       ·intro w'
        go_simp
        with_reducible rfl
       rotate_left
       ·simp only [Act.put, List.setIfInBounds_toArray, List.set_cons_zero, List.set_cons_succ, i64_w, i32_w]
        rfl
       refine take_ (i := 0) (N := some 19) (v := ?_) (a' := ?_) #[true, true, true, true, false, false, false, false, false, false, false, false] rfl rfl (take_ofW HT_.out HW_.out (by kernel_rfl)) (fun _ _ _ h => h) (Or.inl ⟨by rfl, ?_⟩) hHeld ?_ ?_
       rotate_left
       ·rintro w' ⟨s0, s1, s2⟩
        go_simp
        with_reducible rfl
       rotate_left
       ·simp only [Act.put, List.setIfInBounds_toArray, List.set_cons_zero, List.set_cons_succ, i64_w, i32_w]
        rfl
       refine take_ (i := 4) (N := some 23) (v := ?_) (a' := ?_) #[true, true, true, true, true, false, false, false, false, false, false, false] rfl rfl (take_ofW HT_.out HW_.out (by kernel_rfl)) (fun _ _ _ h => h) (Or.inl ⟨by rfl, ?_⟩) hHeld ?_ ?_
       rotate_left
       ·rintro w' ⟨s0, s1, s2⟩
        go_simp
        with_reducible rfl
       rotate_left
       ·simp only [Act.put, List.setIfInBounds_toArray, List.set_cons_zero, List.set_cons_succ, i64_w, i32_w]
        rfl
       refine join_ (σ := Value × Nat) 2 #[true, true, true, true, true, true, true, true, true, true, false, false] (fun s_ => [(24, .tuple #[.agg #[s_.1], .bool true]), (9, .pointer (some ⟨s_.2, 0, none⟩)), (18, .tuple #[.agg #[s_.1], .bool true]), (25, .agg #[s_.1]), (26, .bool true)]) (fun s_ w' => (w'.cell? ⟨gb162, 0, none⟩ = some (.slice Ao26 x163000_1.length co26) ∧ w'.cell? (ad167.add ((x8_1).toNat * 2)) = some (.int .i64 ((rd_T51 l1 x8_1).f0)) ∧ w'.cell? ⟨(ad167.add ((x8_1).toNat * 2)).block, (ad167.add ((x8_1).toNat * 2)).off + 1, none⟩ = some (.int .i64 ((rd_T51 l1 x8_1).f1))) ∧ (Kd.V (Kd.slice 3 (Kd.int .i64)) 29 w' w.heap.size (fun k_ => (P0_0_ k_ ∨ w.heap.size ≤ k_) ∧ some k_ ≠ (u7 : Value).ownBlock ∧ k_ ≠ gb162 ∧ k_ ≠ gb163 ∧ k_ ≠ s_.2) s_.1 t168) ∧ (Kd.V (Kd.slice 3 (Kd.int .i64)) 29 w' w.heap.size (fun k_ => (P0_0_ k_ ∨ w.heap.size ≤ k_) ∧ some k_ ≠ (u7 : Value).ownBlock ∧ k_ ≠ gb162 ∧ k_ ≠ gb163 ∧ k_ ≠ s_.2) (.slice Ao26 x163000_1.length co26) x163000_1) ∧ (Kd.R (Kd.int .i64) 3 w' w.heap.size (fun k_ => (w.heap.size ≤ k_)) u7 x7_1) ∧ (w'.heap[gb162]? = some (.cells #[.slice Ao26 x163000_1.length co26] 28 (0, 0))) ∧ (w'.heap[gb163]? = some (.cells #[.slice none 0 0] 28 (0, 0))) ∧ (w'.heap[s_.2]? = some (.cells #[.slice none 0 0] 28 (0, 0))) ∧ (w.heap.size ≤ s_.2) ∧ (w.heap.size ≤ s_.2) ∧ (gb162 ≠ s_.2) ∧ (s_.2 ≠ gb162) ∧ (gb163 ≠ s_.2) ∧ (s_.2 ≠ gb163) ∧ (Below w.heap.size w w')) ?_ ?_
       rotate_left
       ·intro hCont
        refine two_ (i := 5) (j := 9) (Ni := some 24) (Nj := some 9) #[true, true, true, true, true, true, false, false, false, false, false, false] #[true, true, true, true, true, false, false, false, false, true, false, false] rfl rfl rfl rfl (two_of HT_.out (by kernel_rfl)) (by decide) (by decide) (fun K hK => ?_) (fun K hK => ?_)
        ·skip
         refine goes_ Try.func45 (by kernel_rfl) rfl #[.agg #[.slice Ao26 x163000_1.length co26], .agg #[.int .i64 ((rd_T51 l1 x8_1).f0), .int .i64 ((rd_T51 l1 x8_1).f1)]] (by rfl) rfl rfl gmp ?_
         with_reducible refine (spec_l6Step.calls k1 (fun k_ => ((P0_0_ k_ ∨ w.heap.size ≤ k_) ∧ (some k_ ≠ (u7 : Value).ownBlock ∧ (k_ ≠ gb162 ∧ k_ ≠ gb163)))) _ _ x163000_1 ((rd_T51 l1 x8_1).f0) ((rd_T51 l1 x8_1).f1) t168 true _ ?side1 A9.out).mono ?_
         (case side1 => exact HO_163000.out)
         rintro e w28 ⟨v169, rfl, ho0, hb⟩
         refine ⟨_, rfl, ?_⟩
         have n0_ := Aside0.mk (Kd.R_below (rdl HO_7) hb)
         have n1_ := Aside0.mk (Kd.V_below (by (with_reducible repeat (first | apply Kd.V_alloc | apply Kd.V_drewN | apply Kd.V_drew)); exact HO_163000.out) hb)
         have n2_ := Aside0.mk (Kd.V_lower (Kd.V_mono (ok' := fun k_ => (P0_0_ k_ ∨ w.heap.size ≤ k_) ∧ some k_ ≠ (u7 : Value).ownBlock ∧ k_ ≠ gb162 ∧ k_ ≠ gb163) ho0 (fun k_ hk_ => ⟨Or.elim hk_ (fun hs_ => hs_.1) (fun hn_ => (.inr (Nat.le_trans (below_size (bel2 HB GE162 GE163)) hn_))), Or.elim hk_ (fun hs_ => hs_.2.1) (fun hn_ => (Kd.fresh' (Kd.R_lt (rdl HO_7)) k_ hn_)), Or.elim hk_ (fun hs_ => hs_.2.2.1) (fun hn_ => (Kd.freshB (g := gb162) (o := .cells #[.slice Ao26 x163000_1.length co26] 28 (0, 0)) (bkl BK162) k_ hn_)), Or.elim hk_ (fun hs_ => hs_.2.2.2) (fun hn_ => (Kd.freshB (g := gb163) (o := .cells #[.slice none 0 0] 28 (0, 0)) (bkl BK163) k_ hn_))⟩)) (below_size (bel2 HB GE162 GE163)))
         have n3_ := Aside0.mk (blk_below (g := gb162) (o := .cells #[.slice Ao26 x163000_1.length co26] 28 (0, 0)) (bkl BK162) hb)
         have n4_ := Aside0.mk (blk_below (g := gb163) (o := .cells #[.slice none 0 0] 28 (0, 0)) (bkl BK163) hb)
         have n5_ := Aside0.mk (below_step (bel2 HB GE162 GE163) hb)
         clear HO_7
         clear HO_163000
         clear BK162
         clear BK163
         clear HB
         have HO_7 := n0_
         have HO_163000 := n1_
         have HO170 := n2_
         have BK162 := n3_
         have BK163 := n4_
         have HB := n5_
         clear n0_ n1_ n2_ n3_ n4_ n5_
         (try clear hb)
         (try clear hb2)
         (try clear hk)
         (try clear hi)
         (try clear ho0)
         refine hK.out _ _ ⟨(blk_cell BK162.out 0).trans rfl, (cel HB hw167_0), (cel HB hw167_1)⟩ (fun hHeld => ?_)
         clear hK K
         refine norm_ (a' := ?_) ?_ ?_
         rotate_left
         ·show Act.put _ (some 24) _ = _
          simp only [Act.put, List.setIfInBounds_toArray, List.set_cons_zero, List.set_cons_succ, i64_w, i32_w]
          rfl
         refine pure_ (i := 6) (N := some 18) (v := ?_) (a' := ?_) #[true, true, true, true, true, true, true, false, false, false, false, false] rfl rfl (any_of HT_.out (by kernel_rfl)) (fun _ _ _ h => h) (Or.inl ⟨by rfl, ?_⟩) ?_ ?_
         rotate_left
         ·intro w'
          go_simp
          with_reducible rfl
         rotate_left
         ·simp only [Act.put, List.setIfInBounds_toArray, List.set_cons_zero, List.set_cons_succ, i64_w, i32_w]
          rfl
         refine pure_ (i := 7) (N := some 25) (v := ?_) (a' := ?_) #[true, true, true, true, true, true, true, true, false, false, false, false] rfl rfl (any_of HT_.out (by kernel_rfl)) (fun _ _ _ h => h) (Or.inl ⟨by rfl, ?_⟩) ?_ ?_
         rotate_left
         ·intro w'
          go_simp
          with_reducible rfl
         rotate_left
         ·simp only [Act.put, List.setIfInBounds_toArray, List.set_cons_zero, List.set_cons_succ, i64_w, i32_w]
          rfl
         refine pure_ (i := 8) (N := some 26) (v := ?_) (a' := ?_) #[true, true, true, true, true, true, true, true, true, false, false, false] rfl rfl (any_of HT_.out (by kernel_rfl)) (fun _ _ _ h => h) (Or.inl ⟨by rfl, ?_⟩) ?_ ?_
         rotate_left
         ·intro w'
          go_simp
          with_reducible rfl
         rotate_left
         ·simp only [Act.put, List.setIfInBounds_toArray, List.set_cons_zero, List.set_cons_succ, i64_w, i32_w]
          rfl
         refine one_ (i := 9) (N := some 9) #[true, true, true, true, true, true, true, true, true, true, false, false] rfl rfl (one_of HT_.out (by kernel_rfl)) (by decide) (fun K hK => ?_)
         refine box_step ?hg (N := 9) ?hd (cs := #[.slice none 0 0]) (t := 28) ?hr ?_; (case hd => rfl); (case hg => rfl); (case hr => first | (go_simp; done) | (go_simp; rfl))
         intro gb172 hg w29 hbox hb
         have n0_ := Aside0.mk (Kd.R_below (rdl HO_7) hb)
         have n1_ := Aside0.mk (Kd.V_below (Kd.V_elderB (by (with_reducible repeat (first | apply Kd.V_alloc | apply Kd.V_drewN | apply Kd.V_drew)); exact HO_163000.out) gb172 (Nat.le_of_eq hg.symm)) hb)
         have n2_ := Aside0.mk (Kd.V_below (Kd.V_elderB (by (with_reducible repeat (first | apply Kd.V_alloc | apply Kd.V_drewN | apply Kd.V_drew)); exact HO170.out) gb172 (Nat.le_of_eq hg.symm)) hb)
         have n3_ := Aside0.mk (blk_below (g := gb162) (o := .cells #[.slice Ao26 x163000_1.length co26] 28 (0, 0)) (bkl BK162) hb)
         have n4_ := Aside0.mk (blk_below (g := gb163) (o := .cells #[.slice none 0 0] 28 (0, 0)) (bkl BK163) hb)
         have n5_ := Aside0.mk (below_step (bel2 HB GE162 GE163) hb)
         have n6_ := Aside0.mk (hbox)
         have n7_ := Aside0.mk ((by rw [hg]; exact (below_size (bel2 HB GE162 GE163)) : w.heap.size ≤ gb172))
         have n8_ := Aside0.mk ((by rw [hg]; exact (below_size (bel2 HB GE162 GE163)) : w.heap.size ≤ gb172))
         have n9_ := Aside0.mk ((by rw [hg]; exact Nat.ne_of_lt (blk_lt (g := gb162) (o := .cells #[.slice Ao26 x163000_1.length co26] 28 (0, 0)) (bkl BK162)) : gb162 ≠ gb172))
         have n10_ := Aside0.mk ((by rw [hg]; exact Nat.ne_of_gt (blk_lt (g := gb162) (o := .cells #[.slice Ao26 x163000_1.length co26] 28 (0, 0)) (bkl BK162)) : gb172 ≠ gb162))
         have n11_ := Aside0.mk ((by rw [hg]; exact Nat.ne_of_lt (blk_lt (g := gb163) (o := .cells #[.slice none 0 0] 28 (0, 0)) (bkl BK163)) : gb163 ≠ gb172))
         have n12_ := Aside0.mk ((by rw [hg]; exact Nat.ne_of_gt (blk_lt (g := gb163) (o := .cells #[.slice none 0 0] 28 (0, 0)) (bkl BK163)) : gb172 ≠ gb163))
         clear HO_7
         clear HO_163000
         clear HO170
         clear BK162
         clear BK163
         clear HB
         have HO_7 := n0_
         have HO_163000 := n1_
         have HO170 := n2_
         have BK162 := n3_
         have BK163 := n4_
         have HB := n5_
         have BK172 := n6_
         have GW172 := n7_
         have GE172 := n8_
         have NB162_172 := n9_
         have NB172_162 := n10_
         have NB163_172 := n11_
         have NB172_163 := n12_
         clear n0_ n1_ n2_ n3_ n4_ n5_ n6_ n7_ n8_ n9_ n10_ n11_ n12_
         clear hb hbox hg
         refine hK.out _ _ ⟨(blk_cell BK162.out 0).trans rfl, (cel HB hw167_0), (cel HB hw167_1)⟩ (fun hHeld => ?_)
         clear hK K
         refine norm_ (a' := ?_) ?_ ?_
         rotate_left
         ·show Act.put _ (some 9) _ = _
          simp only [Act.put, List.setIfInBounds_toArray, List.set_cons_zero, List.set_cons_succ, i64_w, i32_w]
          rfl
         exact norm_ (by simp only [putAll, Act.put, List.setIfInBounds_toArray, List.set_cons_zero, List.set_cons_succ]) (hCont (v169, gb172) _ ⟨hHeld, (by (with_reducible repeat (first | apply Kd.V_alloc | apply Kd.V_drewN | apply Kd.V_drew)); exact Kd.V_mono HO170.out (fun _ hk => ⟨hk.1.1, ⟨hk.1.2.1, ⟨hk.1.2.2.1, ⟨hk.1.2.2.2, hk.2⟩⟩⟩⟩)), (by (with_reducible repeat (first | apply Kd.V_alloc | apply Kd.V_drewN | apply Kd.V_drew)); exact Kd.V_mono HO_163000.out (fun _ hk => ⟨hk.1.1, ⟨hk.1.2.1, ⟨hk.1.2.2.1, ⟨hk.1.2.2.2, hk.2⟩⟩⟩⟩)), (rdl HO_7), (bkl BK162), (bkl BK163), (bkl BK172), GW172.out, GE172.out, NB162_172.out, NB172_162.out, NB163_172.out, NB172_163.out, (bel3 HB GE162 GE163 GE172)⟩)
        ·skip
         refine box_step ?hg (N := 9) ?hd (cs := #[.slice none 0 0]) (t := 28) ?hr ?_; (case hd => rfl); (case hg => rfl); (case hr => first | (go_simp; done) | (go_simp; rfl))
         intro gb172 hg w28 hbox hb
         have n0_ := Aside0.mk (Kd.R_below (rdl HO_7) hb)
         have n1_ := Aside0.mk (Kd.V_below (Kd.V_elderB (by (with_reducible repeat (first | apply Kd.V_alloc | apply Kd.V_drewN | apply Kd.V_drew)); exact HO_163000.out) gb172 (Nat.le_of_eq hg.symm)) hb)
         have n2_ := Aside0.mk (blk_below (g := gb162) (o := .cells #[.slice Ao26 x163000_1.length co26] 28 (0, 0)) (bkl BK162) hb)
         have n3_ := Aside0.mk (blk_below (g := gb163) (o := .cells #[.slice none 0 0] 28 (0, 0)) (bkl BK163) hb)
         have n4_ := Aside0.mk (below_step (bel2 HB GE162 GE163) hb)
         have n5_ := Aside0.mk (hbox)
         have n6_ := Aside0.mk ((by rw [hg]; exact (below_size (bel2 HB GE162 GE163)) : w.heap.size ≤ gb172))
         have n7_ := Aside0.mk ((by rw [hg]; exact (below_size (bel2 HB GE162 GE163)) : w.heap.size ≤ gb172))
         have n8_ := Aside0.mk ((by rw [hg]; exact Nat.ne_of_lt (blk_lt (g := gb162) (o := .cells #[.slice Ao26 x163000_1.length co26] 28 (0, 0)) (bkl BK162)) : gb162 ≠ gb172))
         have n9_ := Aside0.mk ((by rw [hg]; exact Nat.ne_of_gt (blk_lt (g := gb162) (o := .cells #[.slice Ao26 x163000_1.length co26] 28 (0, 0)) (bkl BK162)) : gb172 ≠ gb162))
         have n10_ := Aside0.mk ((by rw [hg]; exact Nat.ne_of_lt (blk_lt (g := gb163) (o := .cells #[.slice none 0 0] 28 (0, 0)) (bkl BK163)) : gb163 ≠ gb172))
         have n11_ := Aside0.mk ((by rw [hg]; exact Nat.ne_of_gt (blk_lt (g := gb163) (o := .cells #[.slice none 0 0] 28 (0, 0)) (bkl BK163)) : gb172 ≠ gb163))
         clear HO_7
         clear HO_163000
         clear BK162
         clear BK163
         clear HB
         have HO_7 := n0_
         have HO_163000 := n1_
         have BK162 := n2_
         have BK163 := n3_
         have HB := n4_
         have BK172 := n5_
         have GW172 := n6_
         have GE172 := n7_
         have NB162_172 := n8_
         have NB172_162 := n9_
         have NB163_172 := n10_
         have NB172_163 := n11_
         clear n0_ n1_ n2_ n3_ n4_ n5_ n6_ n7_ n8_ n9_ n10_ n11_
         clear hb hbox hg
         refine hK.out _ _ ⟨(blk_cell BK162.out 0).trans rfl, (cel HB hw167_0), (cel HB hw167_1)⟩ (fun hHeld => ?_)
         clear hK K
         refine norm_ (a' := ?_) ?_ ?_
         rotate_left
         ·show Act.put _ (some 9) _ = _
          simp only [Act.put, List.setIfInBounds_toArray, List.set_cons_zero, List.set_cons_succ, i64_w, i32_w]
          rfl
         refine one_ (i := 5) (N := some 24) #[true, true, true, true, true, true, false, false, false, true, false, false] rfl rfl (one_of HT_.out (by kernel_rfl)) (by decide) (fun K hK => ?_)
         refine goes_ Try.func45 (by kernel_rfl) rfl #[.agg #[.slice Ao26 x163000_1.length co26], .agg #[.int .i64 ((rd_T51 l1 x8_1).f0), .int .i64 ((rd_T51 l1 x8_1).f1)]] (by rfl) rfl rfl gmp ?_
         with_reducible refine (spec_l6Step.calls k1 (fun k_ => (((P0_0_ k_ ∨ w.heap.size ≤ k_) ∧ (some k_ ≠ (u7 : Value).ownBlock ∧ (k_ ≠ gb162 ∧ k_ ≠ gb163))) ∧ k_ ≠ gb172)) _ _ x163000_1 ((rd_T51 l1 x8_1).f0) ((rd_T51 l1 x8_1).f1) t168 true _ ?side1 A9.out).mono ?_
         (case side1 => exact HO_163000.out)
         rintro e w29 ⟨v169, rfl, ho0, hb⟩
         refine ⟨_, rfl, ?_⟩
         have n0_ := Aside0.mk (Kd.R_below (rdl HO_7) hb)
         have n1_ := Aside0.mk (Kd.V_below (by (with_reducible repeat (first | apply Kd.V_alloc | apply Kd.V_drewN | apply Kd.V_drew)); exact HO_163000.out) hb)
         have n2_ := Aside0.mk (Kd.V_lower (Kd.V_mono (ok' := fun k_ => (P0_0_ k_ ∨ w.heap.size ≤ k_) ∧ some k_ ≠ (u7 : Value).ownBlock ∧ k_ ≠ gb162 ∧ k_ ≠ gb163 ∧ k_ ≠ gb172) ho0 (fun k_ hk_ => ⟨Or.elim hk_ (fun hs_ => hs_.1.1) (fun hn_ => (.inr (Nat.le_trans (below_size (bel3 HB GE162 GE163 GE172)) hn_))), Or.elim hk_ (fun hs_ => hs_.1.2.1) (fun hn_ => (Kd.fresh' (Kd.R_lt (rdl HO_7)) k_ hn_)), Or.elim hk_ (fun hs_ => hs_.1.2.2.1) (fun hn_ => (Kd.freshB (g := gb162) (o := .cells #[.slice Ao26 x163000_1.length co26] 28 (0, 0)) (bkl BK162) k_ hn_)), Or.elim hk_ (fun hs_ => hs_.1.2.2.2) (fun hn_ => (Kd.freshB (g := gb163) (o := .cells #[.slice none 0 0] 28 (0, 0)) (bkl BK163) k_ hn_)), Or.elim hk_ (fun hs_ => hs_.2) (fun hn_ => (Kd.freshB (g := gb172) (o := .cells #[.slice none 0 0] 28 (0, 0)) (bkl BK172) k_ hn_))⟩)) (below_size (bel3 HB GE162 GE163 GE172)))
         have n3_ := Aside0.mk (blk_below (g := gb162) (o := .cells #[.slice Ao26 x163000_1.length co26] 28 (0, 0)) (bkl BK162) hb)
         have n4_ := Aside0.mk (blk_below (g := gb163) (o := .cells #[.slice none 0 0] 28 (0, 0)) (bkl BK163) hb)
         have n5_ := Aside0.mk (blk_below (g := gb172) (o := .cells #[.slice none 0 0] 28 (0, 0)) (bkl BK172) hb)
         have n6_ := Aside0.mk (below_step (bel3 HB GE162 GE163 GE172) hb)
         clear HO_7
         clear HO_163000
         clear BK162
         clear BK163
         clear BK172
         clear HB
         have HO_7 := n0_
         have HO_163000 := n1_
         have HO170 := n2_
         have BK162 := n3_
         have BK163 := n4_
         have BK172 := n5_
         have HB := n6_
         clear n0_ n1_ n2_ n3_ n4_ n5_ n6_
         (try clear hb)
         (try clear hb2)
         (try clear hk)
         (try clear hi)
         (try clear ho0)
         refine hK.out _ _ ⟨(blk_cell BK162.out 0).trans rfl, (cel HB hw167_0), (cel HB hw167_1)⟩ (fun hHeld => ?_)
         clear hK K
         refine norm_ (a' := ?_) ?_ ?_
         rotate_left
         ·show Act.put _ (some 24) _ = _
          simp only [Act.put, List.setIfInBounds_toArray, List.set_cons_zero, List.set_cons_succ, i64_w, i32_w]
          rfl
         refine pure_ (i := 6) (N := some 18) (v := ?_) (a' := ?_) #[true, true, true, true, true, true, true, false, false, true, false, false] rfl rfl (any_of HT_.out (by kernel_rfl)) (fun _ _ _ h => h) (Or.inl ⟨by rfl, ?_⟩) ?_ ?_
         rotate_left
         ·intro w'
          go_simp
          with_reducible rfl
         rotate_left
         ·simp only [Act.put, List.setIfInBounds_toArray, List.set_cons_zero, List.set_cons_succ, i64_w, i32_w]
          rfl
         refine pure_ (i := 7) (N := some 25) (v := ?_) (a' := ?_) #[true, true, true, true, true, true, true, true, false, true, false, false] rfl rfl (any_of HT_.out (by kernel_rfl)) (fun _ _ _ h => h) (Or.inl ⟨by rfl, ?_⟩) ?_ ?_
         rotate_left
         ·intro w'
          go_simp
          with_reducible rfl
         rotate_left
         ·simp only [Act.put, List.setIfInBounds_toArray, List.set_cons_zero, List.set_cons_succ, i64_w, i32_w]
          rfl
         refine pure_ (i := 8) (N := some 26) (v := ?_) (a' := ?_) #[true, true, true, true, true, true, true, true, true, true, false, false] rfl rfl (any_of HT_.out (by kernel_rfl)) (fun _ _ _ h => h) (Or.inl ⟨by rfl, ?_⟩) ?_ ?_
         rotate_left
         ·intro w'
          go_simp
          with_reducible rfl
         rotate_left
         ·simp only [Act.put, List.setIfInBounds_toArray, List.set_cons_zero, List.set_cons_succ, i64_w, i32_w]
          rfl
         exact norm_ (by simp only [putAll, Act.put, List.setIfInBounds_toArray, List.set_cons_zero, List.set_cons_succ]) (hCont (v169, gb172) _ ⟨hHeld, (by (with_reducible repeat (first | apply Kd.V_alloc | apply Kd.V_drewN | apply Kd.V_drew)); exact HO170.out), (by (with_reducible repeat (first | apply Kd.V_alloc | apply Kd.V_drewN | apply Kd.V_drew)); exact Kd.V_mono HO_163000.out (fun _ hk => ⟨hk.1.1, ⟨hk.1.2.1, ⟨hk.1.2.2.1, ⟨hk.1.2.2.2, hk.2⟩⟩⟩⟩)), (rdl HO_7), (bkl BK162), (bkl BK163), (bkl BK172), GW172.out, GE172.out, NB162_172.out, NB172_162.out, NB163_172.out, NB172_163.out, (bel3 HB GE162 GE163 GE172)⟩)
       rintro ⟨v169, gb172⟩ w30 ⟨hS_, h0_, h1_, h2_, h3_, h4_, h5_, h6_, h7_, h8_, h9_, h10_, h11_, h12_⟩
       have n0_ : Aside0 (Kd.V (Kd.slice 3 (Kd.int .i64)) 29 w30 w.heap.size (fun k_ => (P0_0_ k_ ∨ w.heap.size ≤ k_) ∧ some k_ ≠ (u7 : Value).ownBlock ∧ k_ ≠ gb162 ∧ k_ ≠ gb163 ∧ k_ ≠ gb172) v169 t168) := ⟨h0_⟩
       have n1_ : Aside0 (Kd.V (Kd.slice 3 (Kd.int .i64)) 29 w30 w.heap.size (fun k_ => (P0_0_ k_ ∨ w.heap.size ≤ k_) ∧ some k_ ≠ (u7 : Value).ownBlock ∧ k_ ≠ gb162 ∧ k_ ≠ gb163 ∧ k_ ≠ gb172) (.slice Ao26 x163000_1.length co26) x163000_1) := ⟨h1_⟩
       have n2_ : Aside0 (Kd.R (Kd.int .i64) 3 w30 w.heap.size (fun k_ => (w.heap.size ≤ k_)) u7 x7_1) := ⟨h2_⟩
       have n3_ : Aside0 (w30.heap[gb162]? = some (.cells #[.slice Ao26 x163000_1.length co26] 28 (0, 0))) := ⟨h3_⟩
       have n4_ : Aside0 (w30.heap[gb163]? = some (.cells #[.slice none 0 0] 28 (0, 0))) := ⟨h4_⟩
       have n5_ : Aside0 (w30.heap[gb172]? = some (.cells #[.slice none 0 0] 28 (0, 0))) := ⟨h5_⟩
       have n6_ : Aside0 (w.heap.size ≤ gb172) := ⟨h6_⟩
       have n7_ : Aside0 (w.heap.size ≤ gb172) := ⟨h7_⟩
       have n8_ : Aside0 (gb162 ≠ gb172) := ⟨h8_⟩
       have n9_ : Aside0 (gb172 ≠ gb162) := ⟨h9_⟩
       have n10_ : Aside0 (gb163 ≠ gb172) := ⟨h10_⟩
       have n11_ : Aside0 (gb172 ≠ gb163) := ⟨h11_⟩
       have n12_ : Aside0 (Below w.heap.size w w30) := ⟨h12_⟩
       clear HO_7
       clear HO_163000
       clear BK162
       clear BK163
       clear HB
       clear h0_ h1_ h2_ h3_ h4_ h5_ h6_ h7_ h8_ h9_ h10_ h11_ h12_
       have HO170 := n0_
       have HO_163000 := n1_
       have HO_7 := n2_
       have BK162 := n3_
       have BK163 := n4_
       have BK172 := n5_
       have GW172 := n6_
       have GE172 := n7_
       have NB162_172 := n8_
       have NB172_162 := n9_
       have NB163_172 := n10_
       have NB172_163 := n11_
       have HB := n12_
       clear n0_ n1_ n2_ n3_ n4_ n5_ n6_ n7_ n8_ n9_ n10_ n11_ n12_
       have hHeld : w30.cell? ⟨gb162, 0, none⟩ = some (.slice Ao26 x163000_1.length co26) ∧ w30.cell? (ad167.add ((x8_1).toNat * 2)) = some (.int .i64 ((rd_T51 l1 x8_1).f0)) ∧ w30.cell? ⟨(ad167.add ((x8_1).toNat * 2)).block, (ad167.add ((x8_1).toNat * 2)).off + 1, none⟩ = some (.int .i64 ((rd_T51 l1 x8_1).f1)) := hS_
       obtain ⟨Ao31, co31, eo31⟩ := Kd.V_slice HO170.out
       (first | subst eo31 | (injection eo31 with f1_ f2_ f3_; have f4_ := f1_.symm; have f5_ := f3_.symm; clear f1_ f2_ f3_; subst f4_; subst f5_))
       refine norm_ (a' := ?_) ?_ ?_
       rotate_left
       ·simp only [putAll, Act.put, List.setIfInBounds_toArray, List.set_cons_zero, List.set_cons_succ]
        rfl
       refine one_ (i := 10) (N := none) #[true, true, true, true, true, true, true, true, true, true, true, false] rfl rfl (one_of HT_.out (by kernel_rfl)) (by decide) (fun K hK => ?_)
       have hs32 : w30.cell? ⟨gb172, 0, none⟩ = some (.slice none 0 0) := (blk_cell BK172.out 0).trans rfl
       have hfs32 := blk_frozen BK172.out 0
       have hns32_0 := NB162_172.out
       have hns32_1 := NB163_172.out
       have hms32_0 := NB172_162.out
       have hms32_1 := NB172_163.out
       refine skip_ (w1 := ?_) (by rfl) rfl ?_ ?_
       rotate_left
       ·go_simp
        rfl
       refine hK.out _ _ ⟨((cell_far (p := ⟨gb172, _, none⟩) NB162_172.out _).trans (hHeld.1)), ((cell_far (p := ⟨gb172, _, none⟩) (by first | exact Nat.ne_of_lt (Nat.lt_of_lt_of_le (by have := World.block_lt_of_cell? _ _ hw167_0; first | rwa [add_block] at this | exact this) GW172.out) | (rw [add_block]; exact Nat.ne_of_lt (Nat.lt_of_lt_of_le (by have := World.block_lt_of_cell? _ _ hw167_0; first | rwa [add_block] at this | exact this) GW172.out)) | (show (Addr.add _ _).block ≠ _; rw [add_block]; exact Nat.ne_of_lt (Nat.lt_of_lt_of_le (by have := World.block_lt_of_cell? _ _ hw167_0; first | rwa [add_block] at this | exact this) GW172.out)) | (dsimp only; exact Nat.ne_of_lt (Nat.lt_of_lt_of_le (by have := World.block_lt_of_cell? _ _ hw167_0; first | rwa [add_block] at this | exact this) GW172.out))) _).trans (hHeld.2.1)), ((cell_far (p := ⟨gb172, _, none⟩) (by first | exact Nat.ne_of_lt (Nat.lt_of_lt_of_le (by have := World.block_lt_of_cell? _ _ hw167_1; first | rwa [add_block] at this | exact this) GW172.out) | (rw [add_block]; exact Nat.ne_of_lt (Nat.lt_of_lt_of_le (by have := World.block_lt_of_cell? _ _ hw167_1; first | rwa [add_block] at this | exact this) GW172.out)) | (show (Addr.add _ _).block ≠ _; rw [add_block]; exact Nat.ne_of_lt (Nat.lt_of_lt_of_le (by have := World.block_lt_of_cell? _ _ hw167_1; first | rwa [add_block] at this | exact this) GW172.out)) | (dsimp only; exact Nat.ne_of_lt (Nat.lt_of_lt_of_le (by have := World.block_lt_of_cell? _ _ hw167_1; first | rwa [add_block] at this | exact this) GW172.out))) _).trans (hHeld.2.2))⟩ (fun hHeld => ?_)
       clear hK K
       refine pure_ (i := 11) (N := some 10) (v := ?_) (a' := ?_) #[true, true, true, true, true, true, true, true, true, true, true, true] rfl rfl (any_of HT_.out (by kernel_rfl)) (fun _ _ _ h => h) (Or.inl ⟨by rfl, ?_⟩) ?_ ?_
       rotate_left
       ·intro w'
        go_simp
        with_reducible rfl
       rotate_left
       ·simp only [Act.put, List.setIfInBounds_toArray, List.set_cons_zero, List.set_cons_succ, i64_w, i32_w]
        rfl
       refine done_ (done_of HT_.out (by kernel_rfl)) ?_
       have hnb33 := NB172_162.out
       have hnc33 := NB162_172.out
       have hnb34 := NB172_163.out
       have hnc34 := NB163_172.out
       have hcz35_0 : w30.cell? ⟨gb172, 0, none⟩ = some (.slice none 0 0) := (blk_cell BK172.out 0).trans rfl
       have hfz35_0 := blk_frozen BK172.out 0
       have hnb36 := NB162_163.out
       have hnc36 := NB163_162.out
       have hcz37_0 : w30.cell? ⟨gb162, 0, none⟩ = some (.slice Ao26 x163000_1.length co26) := (blk_cell BK162.out 0).trans rfl
       have hfz37_0 := blk_frozen BK162.out 0
       have p173 : 0 ≤ (x8_1 : Int) := oda
       have q173 : x8_1 < (l1.length : Int) := oda
       obtain ⟨ad173, e173, hx173_0, hx173_1⟩ := at_T51 HR1.out x8_1 p173 q173
       obtain rfl : ad167 = ad173 := (by injection e173)
       have hn173_0 : ad167.block ≠ gb172 := Nat.ne_of_lt (Nat.lt_of_lt_of_le (by have := World.block_lt_of_cell? _ _ hx173_0; first | rwa [add_block] at this | exact this) GW172.out)
       have hn173_1 : ad167.block ≠ gb162 := Nat.ne_of_lt (Nat.lt_of_lt_of_le (by have := World.block_lt_of_cell? _ _ hx173_0; first | rwa [add_block] at this | exact this) GW162.out)
       replace hx173_0 := cel HB hx173_0
       replace hx173_1 := cel HB hx173_1
       replace hx173_0 := (cell_far (p := ⟨gb172, 0, none⟩) (by first | (rw [add_block]; exact hn173_0) | (show (Addr.add _ _).block ≠ _; rw [add_block]; exact hn173_0) | exact hn173_0) (.slice Ao31 t168.length co31)).trans hx173_0
       replace hx173_1 := (cell_far (p := ⟨gb172, 0, none⟩) (by first | (rw [add_block]; exact hn173_0) | (show (Addr.add _ _).block ≠ _; rw [add_block]; exact hn173_0) | exact hn173_0) (.slice Ao31 t168.length co31)).trans hx173_1
       replace hx173_0 := (cell_far (p := ⟨gb162, 0, none⟩) (by first | (rw [add_block]; exact hn173_1) | (show (Addr.add _ _).block ≠ _; rw [add_block]; exact hn173_1) | exact hn173_1) (.slice Ao31 t168.length co31)).trans hx173_0
       replace hx173_1 := (cell_far (p := ⟨gb162, 0, none⟩) (by first | (rw [add_block]; exact hn173_1) | (show (Addr.add _ _).block ≠ _; rw [add_block]; exact hn173_1) | exact hn173_1) (.slice Ao31 t168.length co31)).trans hx173_1
       clear hn173_0
       clear hn173_1
       replace p173 := eq_true p173
       replace q173 := eq_true q173
       try go_wp2
       go_roundg k1
       case measure => have := HK1.out; omega
       case rel => exact ⟨(x7_1), (wrap64 (x8_1 + 1)), (t168), (.slice Ao31 t168.length co31), (by first | rfl | (simp; done) | (simp [*]; done)), H', ⟨by have := HK1.out; omega⟩, ⟨by (with_reducible repeat (first | apply Kd.R_alloc | apply Kd.R_drewN | apply Kd.R_drew)); exact Kd.R_mono (Kd.R_far (p := ⟨gb162, 0, none⟩) (Kd.R_far (p := ⟨gb172, 0, none⟩) (Kd.R_types (Kd.R_types HO_7.out BK172.out (by decide)) BK162.out (by decide)) (fun _ hk => hk.1.2) (.slice Ao31 t168.length co31)) (fun _ hk => hk.2) (.slice Ao31 t168.length co31)) (fun _ hk => hk.1.1)⟩, ⟨by (with_reducible repeat (first | apply Kd.V_alloc | apply Kd.V_drewN | apply Kd.V_drew)); exact Kd.V_mono (Kd.V_far (p := ⟨gb162, 0, none⟩) (Kd.V_far (p := ⟨gb172, 0, none⟩) (Kd.V_mono (Kd.V_mono HO170.out (fun k_ hk => (⟨hk, hk.2.2.2.2⟩ : _ ∧ k_ ≠ gb172))) (fun k_ hk => (⟨hk, hk.1.2.2.1⟩ : _ ∧ k_ ≠ gb162))) (fun _ hk => hk.1.2) (.slice Ao31 t168.length co31)) (fun _ hk => hk.2) (.slice Ao31 t168.length co31)) (fun _ hk => ⟨hk.1.1.1, ⟨hk.1.1.2.1, ⟨hk.1.1.2.2.1, hk.1.1.2.2.2.1⟩⟩⟩)⟩, ⟨by (with_reducible repeat (first | refine blk_drewN ?_ _ | refine blk_drew ?_ | refine blk_alloc ?_ _)); refine blk_put (cs := #[.slice Ao26 x163000_1.length co26]) ?_ 0 _ rfl; (with_reducible repeat (first | refine blk_drewN ?_ _ | refine blk_drew ?_ | refine blk_alloc ?_ _)); refine blk_far ?_ NB162_172.out _; (with_reducible repeat (first | refine blk_drewN ?_ _ | refine blk_drew ?_ | refine blk_alloc ?_ _)); exact BK162.out⟩, ⟨by (with_reducible repeat (first | refine blk_drewN ?_ _ | refine blk_drew ?_ | refine blk_alloc ?_ _)); refine blk_far ?_ NB163_162.out _; (with_reducible repeat (first | refine blk_drewN ?_ _ | refine blk_drew ?_ | refine blk_alloc ?_ _)); refine blk_far ?_ NB163_172.out _; (with_reducible repeat (first | refine blk_drewN ?_ _ | refine blk_drew ?_ | refine blk_alloc ?_ _)); exact BK163.out⟩, ⟨bel3 HB GE162 GE163 GE172⟩⟩
     ·replace c10 := Bool.eq_false_iff.mpr c10
      subst c10
      have H1 : (some (([] : List (List Int)), (([] : List Int)), false)) = some (r1, r2, r3) := by rw [if_neg (show ¬ (false = true) by decide)] at H; exact H
      clear H
      have H := H1
      clear H1
      obtain ⟨y178, hy178⟩ : ∃ y_ : List Int, y_ = (([] : List Int)) := ⟨_, rfl⟩
      replace H : (some (([] : List (List Int)), y178, false)) = some (r1, r2, r3) := by first | (rw [hy178]; with_reducible exact H) | (have H2_ := (Option.bind_some _ _).symm.trans H; rw [hy178]; with_reducible exact H2_) | (have H2_ := (Option.bind_some _ _).symm.trans H; with_reducible exact H2_) | with_reducible exact H | (rw [hy178]; exact H) | exact H
      have Ny178 := Aside0.mk hy178
      clear hy178
      simp only [Option.some.injEq, Prod.mk.injEq] at H
      obtain ⟨rfl, rfl, rfl⟩ := H
      obtain ⟨Ao38, co38, eo38⟩ := Kd.V_slice HO_163000.out
      subst eo38
      try go_wp2
      have n0_ := Aside0.mk (Kd.R_drew HO_7.out)
      have n1_ := Aside0.mk (Kd.V_drew HO_163000.out)
      have n2_ := Aside0.mk (blk_drew BK162.out)
      have n3_ := Aside0.mk (blk_drew BK163.out)
      have n4_ := Aside0.mk (below_drew1 HB.out)
      clear HO_7
      clear HO_163000
      clear BK162
      clear BK163
      clear HB
      have HO_7 := n0_
      have HO_163000 := n1_
      have BK162 := n2_
      have BK163 := n3_
      have HB := n4_
      clear n0_ n1_ n2_ n3_ n4_
      have p167 : 0 ≤ (x8_1 : Int) := oda
      have q167 : x8_1 < (l1.length : Int) := oda
      obtain ⟨ad167, e167, hx167_0, hx167_1⟩ := at_T51 HR1.out x8_1 p167 q167
      have hw167_1 := hx167_1
      have hw167_0 := hx167_0
      cases e167
      replace hx167_0 := cel HB hx167_0
      replace hx167_1 := cel HB hx167_1
      replace p167 := eq_true p167
      replace q167 := eq_true q167
      refine start_ (n := 12) (S := fun w' => w'.cell? ⟨gb162, 0, none⟩ = some (.slice Ao38 x163000_1.length co38) ∧ w'.cell? (ad167.add ((x8_1).toNat * 2)) = some (.int .i64 ((rd_T51 l1 x8_1).f0)) ∧ w'.cell? ⟨(ad167.add ((x8_1).toNat * 2)).block, (ad167.add ((x8_1).toNat * 2)).off + 1, none⟩ = some (.int .i64 ((rd_T51 l1 x8_1).f1))) (ds := []) #[false, false, false, false, false, false, false, false, false, false, false, false] (by kernel_rfl) rfl rfl ⟨(blk_cell BK162.out 0).trans rfl, (cel HB hw167_0), (cel HB hw167_1)⟩ (fun hHeld => ?_); refine with_tabW spec_l6Run.tab5 spec_l6Run.bits5 (fun HT_ HW_ => ?_)
      generalize wr.drew = w39 at HO_7 HO_163000 BK162 BK163 HB hx167_0 hx167_1 hHeld ⊢
      refine pure_ (i := 1) (N := some 20) (v := ?_) (a' := ?_) #[false, true, false, false, false, false, false, false, false, false, false, false] rfl rfl (any_of HT_.out (by kernel_rfl)) (fun _ _ _ h => h) (Or.inl ⟨by rfl, ?_⟩) ?_ ?_
      rotate_left
      ·intro w'
       go_simp
       with_reducible rfl
      rotate_left
      ·simp only [Act.put, List.setIfInBounds_toArray, List.set_cons_zero, List.set_cons_succ, i64_w, i32_w]
       rfl
      refine pure_ (i := 2) (N := some 21) (v := ?_) (a' := ?_) #[false, true, true, false, false, false, false, false, false, false, false, false] rfl rfl (any_of HT_.out (by kernel_rfl)) (fun _ _ _ h => h) (Or.inl ⟨by rfl, ?_⟩) ?_ ?_
      rotate_left
      ·intro w'
       go_simp
       with_reducible rfl
      rotate_left
      ·simp only [Act.put, List.setIfInBounds_toArray, List.set_cons_zero, List.set_cons_succ, i64_w, i32_w]
       rfl
      refine pure_ (i := 3) (N := some 22) (v := ?_) (a' := ?_) #[false, true, true, true, false, false, false, false, false, false, false, false] rfl rfl (any_of HT_.out (by kernel_rfl)) (fun _ _ _ h => h) (Or.inl ⟨by rfl, ?_⟩) ?_ ?_
      rotate_left
      ·intro w'
       go_simp
       with_reducible rfl
      rotate_left
      ·simp only [Act.put, List.setIfInBounds_toArray, List.set_cons_zero, List.set_cons_succ, i64_w, i32_w]
       rfl
      refine take_ (i := 0) (N := some 19) (v := ?_) (a' := ?_) #[true, true, true, true, false, false, false, false, false, false, false, false] rfl rfl (take_ofW HT_.out HW_.out (by kernel_rfl)) (fun _ _ _ h => h) (Or.inl ⟨by rfl, ?_⟩) hHeld ?_ ?_
      rotate_left
      ·rintro w' ⟨s0, s1, s2⟩
       go_simp
       with_reducible rfl
      rotate_left
      ·simp only [Act.put, List.setIfInBounds_toArray, List.set_cons_zero, List.set_cons_succ, i64_w, i32_w]
       rfl
      refine take_ (i := 4) (N := some 23) (v := ?_) (a' := ?_) #[true, true, true, true, true, false, false, false, false, false, false, false] rfl rfl (take_ofW HT_.out HW_.out (by kernel_rfl)) (fun _ _ _ h => h) (Or.inl ⟨by rfl, ?_⟩) hHeld ?_ ?_
      rotate_left
      ·rintro w' ⟨s0, s1, s2⟩
       go_simp
       with_reducible rfl
      rotate_left
      ·simp only [Act.put, List.setIfInBounds_toArray, List.set_cons_zero, List.set_cons_succ, i64_w, i32_w]
       rfl
      refine join_ (σ := Value × Nat) 2 #[true, true, true, true, true, true, true, true, true, true, false, false] (fun s_ => [(24, .tuple #[.agg #[s_.1], .bool false]), (9, .pointer (some ⟨s_.2, 0, none⟩)), (18, .tuple #[.agg #[s_.1], .bool false]), (25, .agg #[s_.1]), (26, .bool false)]) (fun s_ w' => (w'.cell? ⟨gb162, 0, none⟩ = some (.slice Ao38 x163000_1.length co38) ∧ w'.cell? (ad167.add ((x8_1).toNat * 2)) = some (.int .i64 ((rd_T51 l1 x8_1).f0)) ∧ w'.cell? ⟨(ad167.add ((x8_1).toNat * 2)).block, (ad167.add ((x8_1).toNat * 2)).off + 1, none⟩ = some (.int .i64 ((rd_T51 l1 x8_1).f1))) ∧ (Kd.V (Kd.slice 3 (Kd.int .i64)) 29 w' w.heap.size (fun k_ => (P0_0_ k_ ∨ w.heap.size ≤ k_) ∧ some k_ ≠ (u7 : Value).ownBlock ∧ k_ ≠ gb162 ∧ k_ ≠ gb163 ∧ k_ ≠ s_.2) s_.1 t168) ∧ (Kd.V (Kd.slice 3 (Kd.int .i64)) 29 w' w.heap.size (fun k_ => (P0_0_ k_ ∨ w.heap.size ≤ k_) ∧ some k_ ≠ (u7 : Value).ownBlock ∧ k_ ≠ gb162 ∧ k_ ≠ gb163 ∧ k_ ≠ s_.2) (.slice Ao38 x163000_1.length co38) x163000_1) ∧ (Kd.R (Kd.int .i64) 3 w' w.heap.size (fun k_ => (w.heap.size ≤ k_)) u7 x7_1) ∧ (w'.heap[gb162]? = some (.cells #[.slice Ao38 x163000_1.length co38] 28 (0, 0))) ∧ (w'.heap[gb163]? = some (.cells #[.slice none 0 0] 28 (0, 0))) ∧ (w'.heap[s_.2]? = some (.cells #[.slice none 0 0] 28 (0, 0))) ∧ (w.heap.size ≤ s_.2) ∧ (w.heap.size ≤ s_.2) ∧ (gb162 ≠ s_.2) ∧ (s_.2 ≠ gb162) ∧ (gb163 ≠ s_.2) ∧ (s_.2 ≠ gb163) ∧ (Below w.heap.size w w')) ?_ ?_
      rotate_left
      ·intro hCont
       refine two_ (i := 5) (j := 9) (Ni := some 24) (Nj := some 9) #[true, true, true, true, true, true, false, false, false, false, false, false] #[true, true, true, true, true, false, false, false, false, true, false, false] rfl rfl rfl rfl (two_of HT_.out (by kernel_rfl)) (by decide) (by decide) (fun K hK => ?_) (fun K hK => ?_)
       ·skip
        refine goes_ Try.func45 (by kernel_rfl) rfl #[.agg #[.slice Ao38 x163000_1.length co38], .agg #[.int .i64 ((rd_T51 l1 x8_1).f0), .int .i64 ((rd_T51 l1 x8_1).f1)]] (by rfl) rfl rfl gmp ?_
        with_reducible refine (spec_l6Step.calls k1 (fun k_ => ((P0_0_ k_ ∨ w.heap.size ≤ k_) ∧ (some k_ ≠ (u7 : Value).ownBlock ∧ (k_ ≠ gb162 ∧ k_ ≠ gb163)))) _ _ x163000_1 ((rd_T51 l1 x8_1).f0) ((rd_T51 l1 x8_1).f1) t168 false _ ?side1 A9.out).mono ?_
        (case side1 => exact HO_163000.out)
        rintro e w40 ⟨v169, rfl, ho0, hb⟩
        refine ⟨_, rfl, ?_⟩
        have n0_ := Aside0.mk (Kd.R_below (rdl HO_7) hb)
        have n1_ := Aside0.mk (Kd.V_below (by (with_reducible repeat (first | apply Kd.V_alloc | apply Kd.V_drewN | apply Kd.V_drew)); exact HO_163000.out) hb)
        have n2_ := Aside0.mk (Kd.V_lower (Kd.V_mono (ok' := fun k_ => (P0_0_ k_ ∨ w.heap.size ≤ k_) ∧ some k_ ≠ (u7 : Value).ownBlock ∧ k_ ≠ gb162 ∧ k_ ≠ gb163) ho0 (fun k_ hk_ => ⟨Or.elim hk_ (fun hs_ => hs_.1) (fun hn_ => (.inr (Nat.le_trans (below_size (bel2 HB GE162 GE163)) hn_))), Or.elim hk_ (fun hs_ => hs_.2.1) (fun hn_ => (Kd.fresh' (Kd.R_lt (rdl HO_7)) k_ hn_)), Or.elim hk_ (fun hs_ => hs_.2.2.1) (fun hn_ => (Kd.freshB (g := gb162) (o := .cells #[.slice Ao38 x163000_1.length co38] 28 (0, 0)) (bkl BK162) k_ hn_)), Or.elim hk_ (fun hs_ => hs_.2.2.2) (fun hn_ => (Kd.freshB (g := gb163) (o := .cells #[.slice none 0 0] 28 (0, 0)) (bkl BK163) k_ hn_))⟩)) (below_size (bel2 HB GE162 GE163)))
        have n3_ := Aside0.mk (blk_below (g := gb162) (o := .cells #[.slice Ao38 x163000_1.length co38] 28 (0, 0)) (bkl BK162) hb)
        have n4_ := Aside0.mk (blk_below (g := gb163) (o := .cells #[.slice none 0 0] 28 (0, 0)) (bkl BK163) hb)
        have n5_ := Aside0.mk (below_step (bel2 HB GE162 GE163) hb)
        clear HO_7
        clear HO_163000
        clear BK162
        clear BK163
        clear HB
        have HO_7 := n0_
        have HO_163000 := n1_
        have HO170 := n2_
        have BK162 := n3_
        have BK163 := n4_
        have HB := n5_
        clear n0_ n1_ n2_ n3_ n4_ n5_
        (try clear hb)
        (try clear hb2)
        (try clear hk)
        (try clear hi)
        (try clear ho0)
        refine hK.out _ _ ⟨(blk_cell BK162.out 0).trans rfl, (cel HB hw167_0), (cel HB hw167_1)⟩ (fun hHeld => ?_)
        clear hK K
        refine norm_ (a' := ?_) ?_ ?_
        rotate_left
        ·show Act.put _ (some 24) _ = _
         simp only [Act.put, List.setIfInBounds_toArray, List.set_cons_zero, List.set_cons_succ, i64_w, i32_w]
         rfl
        refine pure_ (i := 6) (N := some 18) (v := ?_) (a' := ?_) #[true, true, true, true, true, true, true, false, false, false, false, false] rfl rfl (any_of HT_.out (by kernel_rfl)) (fun _ _ _ h => h) (Or.inl ⟨by rfl, ?_⟩) ?_ ?_
        rotate_left
        ·intro w'
         go_simp
         with_reducible rfl
        rotate_left
        ·simp only [Act.put, List.setIfInBounds_toArray, List.set_cons_zero, List.set_cons_succ, i64_w, i32_w]
         rfl
        refine pure_ (i := 7) (N := some 25) (v := ?_) (a' := ?_) #[true, true, true, true, true, true, true, true, false, false, false, false] rfl rfl (any_of HT_.out (by kernel_rfl)) (fun _ _ _ h => h) (Or.inl ⟨by rfl, ?_⟩) ?_ ?_
        rotate_left
        ·intro w'
         go_simp
         with_reducible rfl
        rotate_left
        ·simp only [Act.put, List.setIfInBounds_toArray, List.set_cons_zero, List.set_cons_succ, i64_w, i32_w]
         rfl
        refine pure_ (i := 8) (N := some 26) (v := ?_) (a' := ?_) #[true, true, true, true, true, true, true, true, true, false, false, false] rfl rfl (any_of HT_.out (by kernel_rfl)) (fun _ _ _ h => h) (Or.inl ⟨by rfl, ?_⟩) ?_ ?_
        rotate_left
        ·intro w'
         go_simp
         with_reducible rfl
        rotate_left
        ·simp only [Act.put, List.setIfInBounds_toArray, List.set_cons_zero, List.set_cons_succ, i64_w, i32_w]
         rfl
        refine one_ (i := 9) (N := some 9) #[true, true, true, true, true, true, true, true, true, true, false, false] rfl rfl (one_of HT_.out (by kernel_rfl)) (by decide) (fun K hK => ?_)
        refine box_step ?hg (N := 9) ?hd (cs := #[.slice none 0 0]) (t := 28) ?hr ?_; (case hd => rfl); (case hg => rfl); (case hr => first | (go_simp; done) | (go_simp; rfl))
        intro gb172 hg w41 hbox hb
        have n0_ := Aside0.mk (Kd.R_below (rdl HO_7) hb)
        have n1_ := Aside0.mk (Kd.V_below (Kd.V_elderB (by (with_reducible repeat (first | apply Kd.V_alloc | apply Kd.V_drewN | apply Kd.V_drew)); exact HO_163000.out) gb172 (Nat.le_of_eq hg.symm)) hb)
        have n2_ := Aside0.mk (Kd.V_below (Kd.V_elderB (by (with_reducible repeat (first | apply Kd.V_alloc | apply Kd.V_drewN | apply Kd.V_drew)); exact HO170.out) gb172 (Nat.le_of_eq hg.symm)) hb)
        have n3_ := Aside0.mk (blk_below (g := gb162) (o := .cells #[.slice Ao38 x163000_1.length co38] 28 (0, 0)) (bkl BK162) hb)
        have n4_ := Aside0.mk (blk_below (g := gb163) (o := .cells #[.slice none 0 0] 28 (0, 0)) (bkl BK163) hb)
        have n5_ := Aside0.mk (below_step (bel2 HB GE162 GE163) hb)
        have n6_ := Aside0.mk (hbox)
        have n7_ := Aside0.mk ((by rw [hg]; exact (below_size (bel2 HB GE162 GE163)) : w.heap.size ≤ gb172))
        have n8_ := Aside0.mk ((by rw [hg]; exact (below_size (bel2 HB GE162 GE163)) : w.heap.size ≤ gb172))
        have n9_ := Aside0.mk ((by rw [hg]; exact Nat.ne_of_lt (blk_lt (g := gb162) (o := .cells #[.slice Ao38 x163000_1.length co38] 28 (0, 0)) (bkl BK162)) : gb162 ≠ gb172))
        have n10_ := Aside0.mk ((by rw [hg]; exact Nat.ne_of_gt (blk_lt (g := gb162) (o := .cells #[.slice Ao38 x163000_1.length co38] 28 (0, 0)) (bkl BK162)) : gb172 ≠ gb162))
        have n11_ := Aside0.mk ((by rw [hg]; exact Nat.ne_of_lt (blk_lt (g := gb163) (o := .cells #[.slice none 0 0] 28 (0, 0)) (bkl BK163)) : gb163 ≠ gb172))
        have n12_ := Aside0.mk ((by rw [hg]; exact Nat.ne_of_gt (blk_lt (g := gb163) (o := .cells #[.slice none 0 0] 28 (0, 0)) (bkl BK163)) : gb172 ≠ gb163))
        clear HO_7
        clear HO_163000
        clear HO170
        clear BK162
        clear BK163
        clear HB
        have HO_7 := n0_
        have HO_163000 := n1_
        have HO170 := n2_
        have BK162 := n3_
        have BK163 := n4_
        have HB := n5_
        have BK172 := n6_
        have GW172 := n7_
        have GE172 := n8_
        have NB162_172 := n9_
        have NB172_162 := n10_
        have NB163_172 := n11_
        have NB172_163 := n12_
        clear n0_ n1_ n2_ n3_ n4_ n5_ n6_ n7_ n8_ n9_ n10_ n11_ n12_
        clear hb hbox hg
        refine hK.out _ _ ⟨(blk_cell BK162.out 0).trans rfl, (cel HB hw167_0), (cel HB hw167_1)⟩ (fun hHeld => ?_)
        clear hK K
        refine norm_ (a' := ?_) ?_ ?_
        rotate_left
        ·show Act.put _ (some 9) _ = _
         simp only [Act.put, List.setIfInBounds_toArray, List.set_cons_zero, List.set_cons_succ, i64_w, i32_w]
         rfl
        exact norm_ (by simp only [putAll, Act.put, List.setIfInBounds_toArray, List.set_cons_zero, List.set_cons_succ]) (hCont (v169, gb172) _ ⟨hHeld, (by (with_reducible repeat (first | apply Kd.V_alloc | apply Kd.V_drewN | apply Kd.V_drew)); exact Kd.V_mono HO170.out (fun _ hk => ⟨hk.1.1, ⟨hk.1.2.1, ⟨hk.1.2.2.1, ⟨hk.1.2.2.2, hk.2⟩⟩⟩⟩)), (by (with_reducible repeat (first | apply Kd.V_alloc | apply Kd.V_drewN | apply Kd.V_drew)); exact Kd.V_mono HO_163000.out (fun _ hk => ⟨hk.1.1, ⟨hk.1.2.1, ⟨hk.1.2.2.1, ⟨hk.1.2.2.2, hk.2⟩⟩⟩⟩)), (rdl HO_7), (bkl BK162), (bkl BK163), (bkl BK172), GW172.out, GE172.out, NB162_172.out, NB172_162.out, NB163_172.out, NB172_163.out, (bel3 HB GE162 GE163 GE172)⟩)
       ·skip
        refine box_step ?hg (N := 9) ?hd (cs := #[.slice none 0 0]) (t := 28) ?hr ?_; (case hd => rfl); (case hg => rfl); (case hr => first | (go_simp; done) | (go_simp; rfl))
        intro gb172 hg w40 hbox hb
        have n0_ := Aside0.mk (Kd.R_below (rdl HO_7) hb)
        have n1_ := Aside0.mk (Kd.V_below (Kd.V_elderB (by (with_reducible repeat (first | apply Kd.V_alloc | apply Kd.V_drewN | apply Kd.V_drew)); exact HO_163000.out) gb172 (Nat.le_of_eq hg.symm)) hb)
        have n2_ := Aside0.mk (blk_below (g := gb162) (o := .cells #[.slice Ao38 x163000_1.length co38] 28 (0, 0)) (bkl BK162) hb)
        have n3_ := Aside0.mk (blk_below (g := gb163) (o := .cells #[.slice none 0 0] 28 (0, 0)) (bkl BK163) hb)
        have n4_ := Aside0.mk (below_step (bel2 HB GE162 GE163) hb)
        have n5_ := Aside0.mk (hbox)
        have n6_ := Aside0.mk ((by rw [hg]; exact (below_size (bel2 HB GE162 GE163)) : w.heap.size ≤ gb172))
        have n7_ := Aside0.mk ((by rw [hg]; exact (below_size (bel2 HB GE162 GE163)) : w.heap.size ≤ gb172))
        have n8_ := Aside0.mk ((by rw [hg]; exact Nat.ne_of_lt (blk_lt (g := gb162) (o := .cells #[.slice Ao38 x163000_1.length co38] 28 (0, 0)) (bkl BK162)) : gb162 ≠ gb172))
        have n9_ := Aside0.mk ((by rw [hg]; exact Nat.ne_of_gt (blk_lt (g := gb162) (o := .cells #[.slice Ao38 x163000_1.length co38] 28 (0, 0)) (bkl BK162)) : gb172 ≠ gb162))
        have n10_ := Aside0.mk ((by rw [hg]; exact Nat.ne_of_lt (blk_lt (g := gb163) (o := .cells #[.slice none 0 0] 28 (0, 0)) (bkl BK163)) : gb163 ≠ gb172))
        have n11_ := Aside0.mk ((by rw [hg]; exact Nat.ne_of_gt (blk_lt (g := gb163) (o := .cells #[.slice none 0 0] 28 (0, 0)) (bkl BK163)) : gb172 ≠ gb163))
        clear HO_7
        clear HO_163000
        clear BK162
        clear BK163
        clear HB
        have HO_7 := n0_
        have HO_163000 := n1_
        have BK162 := n2_
        have BK163 := n3_
        have HB := n4_
        have BK172 := n5_
        have GW172 := n6_
        have GE172 := n7_
        have NB162_172 := n8_
        have NB172_162 := n9_
        have NB163_172 := n10_
        have NB172_163 := n11_
        clear n0_ n1_ n2_ n3_ n4_ n5_ n6_ n7_ n8_ n9_ n10_ n11_
        clear hb hbox hg
        refine hK.out _ _ ⟨(blk_cell BK162.out 0).trans rfl, (cel HB hw167_0), (cel HB hw167_1)⟩ (fun hHeld => ?_)
        clear hK K
        refine norm_ (a' := ?_) ?_ ?_
        rotate_left
        ·show Act.put _ (some 9) _ = _
         simp only [Act.put, List.setIfInBounds_toArray, List.set_cons_zero, List.set_cons_succ, i64_w, i32_w]
         rfl
        refine one_ (i := 5) (N := some 24) #[true, true, true, true, true, true, false, false, false, true, false, false] rfl rfl (one_of HT_.out (by kernel_rfl)) (by decide) (fun K hK => ?_)
        refine goes_ Try.func45 (by kernel_rfl) rfl #[.agg #[.slice Ao38 x163000_1.length co38], .agg #[.int .i64 ((rd_T51 l1 x8_1).f0), .int .i64 ((rd_T51 l1 x8_1).f1)]] (by rfl) rfl rfl gmp ?_
        with_reducible refine (spec_l6Step.calls k1 (fun k_ => (((P0_0_ k_ ∨ w.heap.size ≤ k_) ∧ (some k_ ≠ (u7 : Value).ownBlock ∧ (k_ ≠ gb162 ∧ k_ ≠ gb163))) ∧ k_ ≠ gb172)) _ _ x163000_1 ((rd_T51 l1 x8_1).f0) ((rd_T51 l1 x8_1).f1) t168 false _ ?side1 A9.out).mono ?_
        (case side1 => exact HO_163000.out)
        rintro e w41 ⟨v169, rfl, ho0, hb⟩
        refine ⟨_, rfl, ?_⟩
        have n0_ := Aside0.mk (Kd.R_below (rdl HO_7) hb)
        have n1_ := Aside0.mk (Kd.V_below (by (with_reducible repeat (first | apply Kd.V_alloc | apply Kd.V_drewN | apply Kd.V_drew)); exact HO_163000.out) hb)
        have n2_ := Aside0.mk (Kd.V_lower (Kd.V_mono (ok' := fun k_ => (P0_0_ k_ ∨ w.heap.size ≤ k_) ∧ some k_ ≠ (u7 : Value).ownBlock ∧ k_ ≠ gb162 ∧ k_ ≠ gb163 ∧ k_ ≠ gb172) ho0 (fun k_ hk_ => ⟨Or.elim hk_ (fun hs_ => hs_.1.1) (fun hn_ => (.inr (Nat.le_trans (below_size (bel3 HB GE162 GE163 GE172)) hn_))), Or.elim hk_ (fun hs_ => hs_.1.2.1) (fun hn_ => (Kd.fresh' (Kd.R_lt (rdl HO_7)) k_ hn_)), Or.elim hk_ (fun hs_ => hs_.1.2.2.1) (fun hn_ => (Kd.freshB (g := gb162) (o := .cells #[.slice Ao38 x163000_1.length co38] 28 (0, 0)) (bkl BK162) k_ hn_)), Or.elim hk_ (fun hs_ => hs_.1.2.2.2) (fun hn_ => (Kd.freshB (g := gb163) (o := .cells #[.slice none 0 0] 28 (0, 0)) (bkl BK163) k_ hn_)), Or.elim hk_ (fun hs_ => hs_.2) (fun hn_ => (Kd.freshB (g := gb172) (o := .cells #[.slice none 0 0] 28 (0, 0)) (bkl BK172) k_ hn_))⟩)) (below_size (bel3 HB GE162 GE163 GE172)))
        have n3_ := Aside0.mk (blk_below (g := gb162) (o := .cells #[.slice Ao38 x163000_1.length co38] 28 (0, 0)) (bkl BK162) hb)
        have n4_ := Aside0.mk (blk_below (g := gb163) (o := .cells #[.slice none 0 0] 28 (0, 0)) (bkl BK163) hb)
        have n5_ := Aside0.mk (blk_below (g := gb172) (o := .cells #[.slice none 0 0] 28 (0, 0)) (bkl BK172) hb)
        have n6_ := Aside0.mk (below_step (bel3 HB GE162 GE163 GE172) hb)
        clear HO_7
        clear HO_163000
        clear BK162
        clear BK163
        clear BK172
        clear HB
        have HO_7 := n0_
        have HO_163000 := n1_
        have HO170 := n2_
        have BK162 := n3_
        have BK163 := n4_
        have BK172 := n5_
        have HB := n6_
        clear n0_ n1_ n2_ n3_ n4_ n5_ n6_
        (try clear hb)
        (try clear hb2)
        (try clear hk)
        (try clear hi)
        (try clear ho0)
        refine hK.out _ _ ⟨(blk_cell BK162.out 0).trans rfl, (cel HB hw167_0), (cel HB hw167_1)⟩ (fun hHeld => ?_)
        clear hK K
        refine norm_ (a' := ?_) ?_ ?_
        rotate_left
        ·show Act.put _ (some 24) _ = _
         simp only [Act.put, List.setIfInBounds_toArray, List.set_cons_zero, List.set_cons_succ, i64_w, i32_w]
         rfl
        refine pure_ (i := 6) (N := some 18) (v := ?_) (a' := ?_) #[true, true, true, true, true, true, true, false, false, true, false, false] rfl rfl (any_of HT_.out (by kernel_rfl)) (fun _ _ _ h => h) (Or.inl ⟨by rfl, ?_⟩) ?_ ?_
        rotate_left
        ·intro w'
         go_simp
         with_reducible rfl
        rotate_left
        ·simp only [Act.put, List.setIfInBounds_toArray, List.set_cons_zero, List.set_cons_succ, i64_w, i32_w]
         rfl
        refine pure_ (i := 7) (N := some 25) (v := ?_) (a' := ?_) #[true, true, true, true, true, true, true, true, false, true, false, false] rfl rfl (any_of HT_.out (by kernel_rfl)) (fun _ _ _ h => h) (Or.inl ⟨by rfl, ?_⟩) ?_ ?_
        rotate_left
        ·intro w'
         go_simp
         with_reducible rfl
        rotate_left
        ·simp only [Act.put, List.setIfInBounds_toArray, List.set_cons_zero, List.set_cons_succ, i64_w, i32_w]
         rfl
        refine pure_ (i := 8) (N := some 26) (v := ?_) (a' := ?_) #[true, true, true, true, true, true, true, true, true, true, false, false] rfl rfl (any_of HT_.out (by kernel_rfl)) (fun _ _ _ h => h) (Or.inl ⟨by rfl, ?_⟩) ?_ ?_
        rotate_left
        ·intro w'
         go_simp
         with_reducible rfl
        rotate_left
        ·simp only [Act.put, List.setIfInBounds_toArray, List.set_cons_zero, List.set_cons_succ, i64_w, i32_w]
         rfl
        exact norm_ (by simp only [putAll, Act.put, List.setIfInBounds_toArray, List.set_cons_zero, List.set_cons_succ]) (hCont (v169, gb172) _ ⟨hHeld, (by (with_reducible repeat (first | apply Kd.V_alloc | apply Kd.V_drewN | apply Kd.V_drew)); exact HO170.out), (by (with_reducible repeat (first | apply Kd.V_alloc | apply Kd.V_drewN | apply Kd.V_drew)); exact Kd.V_mono HO_163000.out (fun _ hk => ⟨hk.1.1, ⟨hk.1.2.1, ⟨hk.1.2.2.1, ⟨hk.1.2.2.2, hk.2⟩⟩⟩⟩)), (rdl HO_7), (bkl BK162), (bkl BK163), (bkl BK172), GW172.out, GE172.out, NB162_172.out, NB172_162.out, NB163_172.out, NB172_163.out, (bel3 HB GE162 GE163 GE172)⟩)
      rintro ⟨v169, gb172⟩ w42 ⟨hS_, h0_, h1_, h2_, h3_, h4_, h5_, h6_, h7_, h8_, h9_, h10_, h11_, h12_⟩
      have n0_ : Aside0 (Kd.V (Kd.slice 3 (Kd.int .i64)) 29 w42 w.heap.size (fun k_ => (P0_0_ k_ ∨ w.heap.size ≤ k_) ∧ some k_ ≠ (u7 : Value).ownBlock ∧ k_ ≠ gb162 ∧ k_ ≠ gb163 ∧ k_ ≠ gb172) v169 t168) := ⟨h0_⟩
      have n1_ : Aside0 (Kd.V (Kd.slice 3 (Kd.int .i64)) 29 w42 w.heap.size (fun k_ => (P0_0_ k_ ∨ w.heap.size ≤ k_) ∧ some k_ ≠ (u7 : Value).ownBlock ∧ k_ ≠ gb162 ∧ k_ ≠ gb163 ∧ k_ ≠ gb172) (.slice Ao38 x163000_1.length co38) x163000_1) := ⟨h1_⟩
      have n2_ : Aside0 (Kd.R (Kd.int .i64) 3 w42 w.heap.size (fun k_ => (w.heap.size ≤ k_)) u7 x7_1) := ⟨h2_⟩
      have n3_ : Aside0 (w42.heap[gb162]? = some (.cells #[.slice Ao38 x163000_1.length co38] 28 (0, 0))) := ⟨h3_⟩
      have n4_ : Aside0 (w42.heap[gb163]? = some (.cells #[.slice none 0 0] 28 (0, 0))) := ⟨h4_⟩
      have n5_ : Aside0 (w42.heap[gb172]? = some (.cells #[.slice none 0 0] 28 (0, 0))) := ⟨h5_⟩
      have n6_ : Aside0 (w.heap.size ≤ gb172) := ⟨h6_⟩
      have n7_ : Aside0 (w.heap.size ≤ gb172) := ⟨h7_⟩
      have n8_ : Aside0 (gb162 ≠ gb172) := ⟨h8_⟩
      have n9_ : Aside0 (gb172 ≠ gb162) := ⟨h9_⟩
      have n10_ : Aside0 (gb163 ≠ gb172) := ⟨h10_⟩
      have n11_ : Aside0 (gb172 ≠ gb163) := ⟨h11_⟩
      have n12_ : Aside0 (Below w.heap.size w w42) := ⟨h12_⟩
      clear HO_7
      clear HO_163000
      clear BK162
      clear BK163
      clear HB
      clear h0_ h1_ h2_ h3_ h4_ h5_ h6_ h7_ h8_ h9_ h10_ h11_ h12_
      have HO170 := n0_
      have HO_163000 := n1_
      have HO_7 := n2_
      have BK162 := n3_
      have BK163 := n4_
      have BK172 := n5_
      have GW172 := n6_
      have GE172 := n7_
      have NB162_172 := n8_
      have NB172_162 := n9_
      have NB163_172 := n10_
      have NB172_163 := n11_
      have HB := n12_
      clear n0_ n1_ n2_ n3_ n4_ n5_ n6_ n7_ n8_ n9_ n10_ n11_ n12_
      have hHeld : w42.cell? ⟨gb162, 0, none⟩ = some (.slice Ao38 x163000_1.length co38) ∧ w42.cell? (ad167.add ((x8_1).toNat * 2)) = some (.int .i64 ((rd_T51 l1 x8_1).f0)) ∧ w42.cell? ⟨(ad167.add ((x8_1).toNat * 2)).block, (ad167.add ((x8_1).toNat * 2)).off + 1, none⟩ = some (.int .i64 ((rd_T51 l1 x8_1).f1)) := hS_
      obtain ⟨Ao43, co43, eo43⟩ := Kd.V_slice HO170.out
      (first | subst eo43 | (injection eo43 with f1_ f2_ f3_; have f4_ := f1_.symm; have f5_ := f3_.symm; clear f1_ f2_ f3_; subst f4_; subst f5_))
      refine norm_ (a' := ?_) ?_ ?_
      rotate_left
      ·simp only [putAll, Act.put, List.setIfInBounds_toArray, List.set_cons_zero, List.set_cons_succ]
       rfl
      refine one_ (i := 10) (N := none) #[true, true, true, true, true, true, true, true, true, true, true, false] rfl rfl (one_of HT_.out (by kernel_rfl)) (by decide) (fun K hK => ?_)
      have hs44 : w42.cell? ⟨gb172, 0, none⟩ = some (.slice none 0 0) := (blk_cell BK172.out 0).trans rfl
      have hfs44 := blk_frozen BK172.out 0
      have hns44_0 := NB162_172.out
      have hns44_1 := NB163_172.out
      have hms44_0 := NB172_162.out
      have hms44_1 := NB172_163.out
      refine skip_ (w1 := ?_) (by rfl) rfl ?_ ?_
      rotate_left
      ·go_simp
       rfl
      refine hK.out _ _ ⟨((cell_far (p := ⟨gb172, _, none⟩) NB162_172.out _).trans (hHeld.1)), ((cell_far (p := ⟨gb172, _, none⟩) (by first | exact Nat.ne_of_lt (Nat.lt_of_lt_of_le (by have := World.block_lt_of_cell? _ _ hw167_0; first | rwa [add_block] at this | exact this) GW172.out) | (rw [add_block]; exact Nat.ne_of_lt (Nat.lt_of_lt_of_le (by have := World.block_lt_of_cell? _ _ hw167_0; first | rwa [add_block] at this | exact this) GW172.out)) | (show (Addr.add _ _).block ≠ _; rw [add_block]; exact Nat.ne_of_lt (Nat.lt_of_lt_of_le (by have := World.block_lt_of_cell? _ _ hw167_0; first | rwa [add_block] at this | exact this) GW172.out)) | (dsimp only; exact Nat.ne_of_lt (Nat.lt_of_lt_of_le (by have := World.block_lt_of_cell? _ _ hw167_0; first | rwa [add_block] at this | exact this) GW172.out))) _).trans (hHeld.2.1)), ((cell_far (p := ⟨gb172, _, none⟩) (by first | exact Nat.ne_of_lt (Nat.lt_of_lt_of_le (by have := World.block_lt_of_cell? _ _ hw167_1; first | rwa [add_block] at this | exact this) GW172.out) | (rw [add_block]; exact Nat.ne_of_lt (Nat.lt_of_lt_of_le (by have := World.block_lt_of_cell? _ _ hw167_1; first | rwa [add_block] at this | exact this) GW172.out)) | (show (Addr.add _ _).block ≠ _; rw [add_block]; exact Nat.ne_of_lt (Nat.lt_of_lt_of_le (by have := World.block_lt_of_cell? _ _ hw167_1; first | rwa [add_block] at this | exact this) GW172.out)) | (dsimp only; exact Nat.ne_of_lt (Nat.lt_of_lt_of_le (by have := World.block_lt_of_cell? _ _ hw167_1; first | rwa [add_block] at this | exact this) GW172.out))) _).trans (hHeld.2.2))⟩ (fun hHeld => ?_)
      clear hK K
      refine pure_ (i := 11) (N := some 10) (v := ?_) (a' := ?_) #[true, true, true, true, true, true, true, true, true, true, true, true] rfl rfl (any_of HT_.out (by kernel_rfl)) (fun _ _ _ h => h) (Or.inl ⟨by rfl, ?_⟩) ?_ ?_
      rotate_left
      ·intro w'
       go_simp
       with_reducible rfl
      rotate_left
      ·simp only [Act.put, List.setIfInBounds_toArray, List.set_cons_zero, List.set_cons_succ, i64_w, i32_w]
       rfl
      refine done_ (done_of HT_.out (by kernel_rfl)) ?_
      try go_wp2_with (first | ((with_reducible refine gate_dst (N := 30) rfl ?_); refine Kd.R_lit (Kd.int .i64) _ 3 ?hg (N := 30) ?hd (xs := ([] : List Int)) (inner := []) (ok := fun _ => True) (okp := fun _ => True) ?hr ?hp (fun _ hk => hk) trivial (Below.refl _ _) (Nat.le_refl _) (by simp) ?_; (case hd => rfl); (case hg => rfl); (case hr => first | (go_simp; done) | (go_simp; rfl)); (case hp => exact (Reps.none _ _)); intro v179 w45 ho46 hb hg_ hnew_; clear hg_ hnew_; (first | rw [← Ny178.out] at ho46 | (simp only [Int.reduceToNat] at ho46; rw [← Ny178.out] at ho46)); have n0_ := Aside0.mk (Kd.R_elder' (by (with_reducible repeat (first | apply Kd.R_alloc | apply Kd.R_drewN | apply Kd.R_drew)); exact (Kd.R_mono (Kd.R_far (p := ⟨gb172, 0, none⟩) (Kd.R_types HO_7.out BK172.out (by decide)) (fun _ hk => hk.2) (.slice Ao43 t168.length co43)) (fun _ h_ => h_.1))) (Kd.R_base ho46) hb); have n1_ := Aside0.mk (Kd.V_elder' (by (with_reducible repeat (first | apply Kd.V_alloc | apply Kd.V_drewN | apply Kd.V_drew)); exact (Kd.V_mono (Kd.V_far (p := ⟨gb172, 0, none⟩) (Kd.V_mono HO_163000.out (fun k_ hk => (⟨hk, hk.2.2.2.2⟩ : _ ∧ k_ ≠ gb172))) (fun _ hk => hk.2) (.slice Ao43 t168.length co43)) (fun _ h_ => h_.1))) (Kd.R_base ho46) hb); have n2_ := Aside0.mk (Kd.V_elder' (by (with_reducible repeat (first | apply Kd.V_alloc | apply Kd.V_drewN | apply Kd.V_drew)); exact (Kd.V_mono (Kd.V_far (p := ⟨gb172, 0, none⟩) (Kd.V_mono HO170.out (fun k_ hk => (⟨hk, hk.2.2.2.2⟩ : _ ∧ k_ ≠ gb172))) (fun _ hk => hk.2) (.slice Ao43 t168.length co43)) (fun _ h_ => h_.1))) (Kd.R_base ho46) hb); have n3_ := Aside0.mk (Kd.R_lower (Kd.R_new' (Kd.R_newM (M := fun k_ => (w.heap.size ≤ k_)) ho46 (below_size (bel3 HB GE162 GE163 GE172)) (fun k_ h_ => h_)) (Kd.R_lt (by (with_reducible repeat (first | apply Kd.R_alloc | apply Kd.R_drewN | apply Kd.R_drew)); exact (Kd.R_mono (Kd.R_far (p := ⟨gb172, 0, none⟩) (Kd.R_types HO_7.out BK172.out (by decide)) (fun _ hk => hk.2) (.slice Ao43 t168.length co43)) (fun _ h_ => h_.1))))) (below_size (bel3 HB GE162 GE163 GE172))); have n4_ := Aside0.mk (blk_below (g := gb162) (o := .cells #[.slice Ao38 x163000_1.length co38] 28 (0, 0)) (by (with_reducible repeat (first | refine blk_drewN ?_ _ | refine blk_drew ?_ | refine blk_alloc ?_ _)); refine blk_far ?_ NB162_172.out _; (with_reducible repeat (first | refine blk_drewN ?_ _ | refine blk_drew ?_ | refine blk_alloc ?_ _)); exact BK162.out) hb); have n5_ := Aside0.mk (blk_below (g := gb163) (o := .cells #[.slice none 0 0] 28 (0, 0)) (by (with_reducible repeat (first | refine blk_drewN ?_ _ | refine blk_drew ?_ | refine blk_alloc ?_ _)); refine blk_far ?_ NB163_172.out _; (with_reducible repeat (first | refine blk_drewN ?_ _ | refine blk_drew ?_ | refine blk_alloc ?_ _)); exact BK163.out) hb); have n6_ := Aside0.mk (blk_below (g := gb172) (o := .cells #[.slice Ao43 t168.length co43] 28 (0, 0)) (by (with_reducible repeat (first | refine blk_drewN ?_ _ | refine blk_drew ?_ | refine blk_alloc ?_ _)); refine blk_put (cs := #[.slice none 0 0]) ?_ 0 _ rfl; (with_reducible repeat (first | refine blk_drewN ?_ _ | refine blk_drew ?_ | refine blk_alloc ?_ _)); exact BK172.out) hb); have n7_ := Aside0.mk (below_step (bel3 HB GE162 GE163 GE172) hb); clear HO_7; clear HO_163000; clear HO170; clear BK162; clear BK163; clear BK172; clear HB; have HO_7 := n0_; have HO_163000 := n1_; have HO170 := n2_; have HO180 := n3_; have BK162 := n4_; have BK163 := n5_; have BK172 := n6_; have HB := n7_; clear n0_ n1_ n2_ n3_ n4_ n5_ n6_ n7_; clear hb ho46; have hnb47 := NB163_162.out; have hnc47 := NB162_163.out; have hnb48 := NB163_172.out; have hnc48 := NB172_163.out; have hcz49_0 : w45.cell? ⟨gb163, 0, none⟩ = some (.slice none 0 0) := (blk_cell BK163.out 0).trans rfl; have hfz49_0 := blk_frozen BK163.out 0))
      refine bodyPost_ret (results_ctt rfl _ _ gb163 28 #[.slice none 0 0] (0, 0) _ rfl (by (with_reducible repeat (first | refine blk_drewN ?_ _ | refine blk_drew ?_ | refine blk_alloc ?_ _)); refine blk_put (cs := #[.slice none 0 0]) ?_ 0 _ rfl; (with_reducible repeat (first | refine blk_drewN ?_ _ | refine blk_drew ?_ | refine blk_alloc ?_ _)); exact BK163.out) Try.underlying28 rfl (by kernel_rfl)) rfl ?_
      exact ⟨_, _, by first | rfl | (simp [errW_none, errW_some] <;> rfl) | (simp [*, errW_none, errW_some] <;> rfl), Kd.V_nil _ _ _ _ _, by (with_reducible repeat (first | apply Kd.R_alloc | apply Kd.R_drewN | apply Kd.R_drew)); exact Kd.R_mono (Kd.R_far (p := ⟨gb163, 0, none⟩) (Kd.R_types HO180.out BK163.out (by decide)) (fun _ hk => hk.2) (.slice none 0 0)) (fun _ hk => hk.1.1.1), bel3 HB GE162 GE163 GE172⟩
    ·rw [if_neg c8] at H
     exact absurd H (by simp)
   ·rw [if_neg c7] at H
    have c7b0 : decide (x8_1 < (l1.length : Int)) = false := decide_eq_false c7
    clear c7
    simp only [Option.some.injEq, Prod.mk.injEq] at H
    obtain ⟨rfl, rfl, rfl⟩ := H
    have hnb50 := NB162_163.out
    have hnc50 := NB163_162.out
    have hcz51_0 : wr.cell? ⟨gb162, 0, none⟩ = some (u163000) := (blk_cell BK162.out 0).trans rfl
    have hfz51_0 := blk_frozen BK162.out 0
    obtain ⟨Ao52, co52, eo52⟩ := Kd.V_slice HO_163000.out
    subst eo52
    have hcz53_0 : wr.cell? ⟨gb163, 0, none⟩ = some (.slice none 0 0) := (blk_cell BK163.out 0).trans rfl
    have hfz53_0 := blk_frozen BK163.out 0
    go_wp2
    refine bodyPost_ret (results_ctt rfl _ _ gb163 28 #[.slice Ao52 x163000_1.length co52] (0, 0) _ rfl (by (with_reducible repeat (first | refine blk_drewN ?_ _ | refine blk_drew ?_ | refine blk_alloc ?_ _)); refine blk_put (cs := #[.slice none 0 0]) ?_ 0 _ rfl; (with_reducible repeat (first | refine blk_drewN ?_ _ | refine blk_drew ?_ | refine blk_alloc ?_ _)); exact BK163.out) Try.underlying28 rfl (by kernel_rfl)) rfl ?_
    exact ⟨_, _, by first | rfl | (simp [errW_none, errW_some] <;> rfl) | (simp [*, errW_none, errW_some] <;> rfl), by (with_reducible repeat (first | apply Kd.V_alloc | apply Kd.V_drewN | apply Kd.V_drew)); exact Kd.V_mono (Kd.V_far (p := ⟨gb163, 0, none⟩) (Kd.V_mono HO_163000.out (fun k_ hk => (⟨hk, hk.2.2.2⟩ : _ ∧ k_ ≠ gb163))) (fun _ hk => hk.2) (.slice Ao52 x163000_1.length co52)) (fun _ hk => ⟨hk.1.1, hk.1.2.1⟩), by (with_reducible repeat (first | apply Kd.R_alloc | apply Kd.R_drewN | apply Kd.R_drew)); exact Kd.R_mono (Kd.R_far (p := ⟨gb163, 0, none⟩) (Kd.R_types HO_7.out BK163.out (by decide)) (fun _ hk => hk.2) (.slice Ao52 x163000_1.length co52)) (fun _ hk => hk.1), bel2 HB GE162 GE163⟩

end Go.Proofs.Ytlnihlmlkdhiaaa.P
