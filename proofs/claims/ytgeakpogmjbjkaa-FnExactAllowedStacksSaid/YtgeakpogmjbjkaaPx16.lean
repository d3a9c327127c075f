-- Written by a program of this session over the translation (a variant of the printer, see wip/gen); Lean checks it.
import Derived.Test.YtgeakpogmjbjkaaPx0
import Derived.Test.YtgeakpogmjbjkaaPx15
namespace Go.Proofs.Ytgeakpogmjbjkaa.P
open Go.RowKit Go.Proofs.YtgeakpogmjbjkaaW.PrintWords Go.Proofs.YtgeakpogmjbjkaaW.PrintLast Go.Proofs.YtgeakpogmjbjkaaW.PrintMore
attribute [local go_sem] Go.Proofs.Ytgeakpogmjbjkaa.V.isSome_setCell max2_int min2_int max_two min_two max_three min_three max_four min_four   -- for this text's walks alone
set_option linter.unusedVariables false
set_option linter.unusedSimpArgs false

/-! ### impl_ownYard: function 49 -/
def impl_ownYard.l0 : Nat → List (List Int) → Int → Int → List (List Int) → Option ((List (List Int)))
 | 0, _, _, _, _ => none
 | k + 1, x9, x10, x11, x308000 => if x11 < x10 then (if 0 ≤ x11 then (if x11 < (x9.length : Int) then ((slices_Clone_int_int.f (rd_L1 x9 x11)).bind fun t309 => (if x308000.length < 5864062014805 then (impl_ownYard.l0 k x9 x10 (wrap64 (x11 + 1)) (x308000 ++ [t309])) else (none))) else (none)) else (none)) else (some x308000)
def impl_ownYard.f (k : Nat) (l0_0 : List (List Int)) : Option ((List (List Int))) := impl_ownYard.l0 k l0_0 (l0_0.length : Int) 0 (([] : List (List Int)))
theorem impl_ownYard.mono_l : ∀ k, (∀ y0 y1 y2 y3, LeO (impl_ownYard.l0 k y0 y1 y2 y3) (impl_ownYard.l0 (k + 1) y0 y1 y2 y3))
 | 0 => fun _ _ _ _ r h => by simp [impl_ownYard.l0] at h
 | k + 1 => by
  have ih0 := impl_ownYard.mono_l k
  ·intro y0 y1 y2 y3
   unfold impl_ownYard.l0
   repeat' first
   | (with_reducible exact ih0 _ _ _ _)
   | (with_reducible exact LeO.refl _)
   | (with_reducible exact LeO.none _)
   | (with_reducible refine LeO.ite ?_ ?_)
   | (with_reducible refine LeO.bind ?_ (fun _ => ?_))
   | exact ih0 _ _ _ _
   | exact LeO.none _
   | refine LeO.ite ?_ ?_
   | refine LeO.bind ?_ (fun _ => ?_)
theorem impl_ownYard.mono : ∀ a0 k, LeO (impl_ownYard.f k a0) (impl_ownYard.f (k + 1) a0) := by
 intro a0 k
 have ih0 := impl_ownYard.mono_l k
 unfold impl_ownYard.f
 repeat' first
   | (with_reducible exact ih0 _ _ _ _)
   | (with_reducible exact LeO.refl _)
   | (with_reducible exact LeO.none _)
   | (with_reducible refine LeO.ite ?_ ?_)
   | (with_reducible refine LeO.bind ?_ (fun _ => ?_))
   | exact ih0 _ _ _ _
   | exact LeO.none _
   | refine LeO.ite ?_ ?_
   | refine LeO.bind ?_ (fun _ => ?_)
def impl_ownYard.T5 : Bool × List (List Nat × List Nat) := (true, [([], []), ([0], [0]), ([], []), ([2], [2]), ([3], [3]), ([1, 4, 3], [1, 4]), ([0, 1, 2, 3, 4, 5], []), ([6, 5, 5, 0, 1, 2, 3, 4, 5], [5, 6])])
def impl_ownYard.B5 : List Nat := [0, 1, 0, 4, 12, 31, 63, 127]
theorem impl_ownYard.tab5 : rtab .any (opsOf Try.f49 5) = impl_ownYard.T5 := by kernel_rfl
theorem impl_ownYard.bits5 : waitsOk impl_ownYard.T5.2 impl_ownYard.B5 = true := by kernel_rfl
set_option maxHeartbeats 8000000 in
set_option maxRecDepth 100000 in
theorem impl_ownYard.calls (k : Nat) (A0_0 : Option Addr) (c0_0 : Nat) (l0_0 : List (List Int)) (r : List (List Int)) (w : World) (hr0_0 : Kd.C (Kd.slice 3 (Kd.int .i64)) w A0_0 l0_0.length l0_0) (hc0_0 : l0_0.length ≤ c0_0) (h : impl_ownYard.f k l0_0 = some r) :
  Calls Try.prog 49 #[.agg #[.slice A0_0 l0_0.length c0_0]] w fun e w' => ∃ v0_ : Value, e = .returned (.agg #[v0_]) ∧ Kd.S (Kd.slice 3 (Kd.int .i64)) 28 w' w.heap.size (fun _ => True) v0_ r ∧ Below w.heap.size w w' := by
 have hu31 := Try.underlying31
 have HR0_0 := Aside0.mk hr0_0
 have HC0_0 := Aside0.mk hc0_0
 clear hr0_0 hc0_0
 have HB := Aside0.mk (Below.refl w.heap.size w)
 have H : (impl_ownYard.l0 k l0_0 (l0_0.length : Int) 0 (([] : List (List Int)))) = some r := h
 clear h
 obtain ⟨y304, hy304⟩ : ∃ y_ : List (List Int), y_ = (([] : List (List Int))) := ⟨_, rfl⟩
 replace H : (impl_ownYard.l0 k l0_0 (l0_0.length : Int) 0 y304) = some r := by first | (rw [hy304]; with_reducible exact H) | (have H2_ := (Option.bind_some _ _).symm.trans H; rw [hy304]; with_reducible exact H2_) | (have H2_ := (Option.bind_some _ _).symm.trans H; with_reducible exact H2_) | with_reducible exact H | (rw [hy304]; exact H) | exact H
 have Ny304 := Aside0.mk hy304
 clear hy304
 have H' := Aside0.mk H
 clear H
 go_enter Try.func49, Try.ntmps49
 go_wp2_with (first | ((with_reducible refine gate_dst (N := 1) rfl ?_); refine box_event ?hg (N := 1) ?hd (cs := #[.slice A0_0 l0_0.length c0_0]) (t := 31) ?hr ?_; (case hd => rfl); (case hg => rfl); (case hr => first | (go_simp; done) | (go_simp; rfl)); intro gb302 hg w2 hbox hb; have n0_ := Aside0.mk (below_step (bel HB) hb); have n1_ := Aside0.mk (hbox); have n2_ := Aside0.mk ((by rw [hg]; exact (below_size (bel HB)) : w.heap.size ≤ gb302)); have n3_ := Aside0.mk ((by rw [hg]; exact (below_size (bel HB)) : w.heap.size ≤ gb302)); clear HB; have HB := n0_; have BK302 := n1_; have GW302 := n2_; have GE302 := n3_; clear n0_ n1_ n2_ n3_; clear hb hbox hg) | ((with_reducible refine gate_dst (N := 2) rfl ?_); refine box_event ?hg (N := 2) ?hd (cs := #[.slice none 0 0]) (t := 31) ?hr ?_; (case hd => rfl); (case hg => rfl); (case hr => first | (go_simp; done) | (go_simp; rfl)); intro gb303 hg w3 hbox hb; have n0_ := Aside0.mk (blk_below (g := gb302) (o := .cells #[.slice A0_0 l0_0.length c0_0] 31 (0, 0)) (bkl BK302) hb); have n1_ := Aside0.mk (below_step (bel1 HB GE302) hb); have n2_ := Aside0.mk (hbox); have n3_ := Aside0.mk ((by rw [hg]; exact (below_size (bel1 HB GE302)) : w.heap.size ≤ gb303)); have n4_ := Aside0.mk ((by rw [hg]; exact (below_size (bel1 HB GE302)) : w.heap.size ≤ gb303)); have n5_ := Aside0.mk ((by rw [hg]; exact Nat.ne_of_lt (blk_lt (g := gb302) (o := .cells #[.slice A0_0 l0_0.length c0_0] 31 (0, 0)) (bkl BK302)) : gb302 ≠ gb303)); have n6_ := Aside0.mk ((by rw [hg]; exact Nat.ne_of_gt (blk_lt (g := gb302) (o := .cells #[.slice A0_0 l0_0.length c0_0] 31 (0, 0)) (bkl BK302)) : gb303 ≠ gb302)); clear BK302; clear HB; have BK302 := n0_; have HB := n1_; have BK303 := n2_; have GW303 := n3_; have GE303 := n4_; have NB302_303 := n5_; have NB303_302 := n6_; clear n0_ n1_ n2_ n3_ n4_ n5_ n6_; clear hb hbox hg) | ((with_reducible refine gate_dst (N := 6) rfl ?_); refine Kd.S_lit (Kd.slice 3 (Kd.int .i64)) _ 28 ?hg (N := 6) ?hd (xs := ([] : List (List Int))) (inner := []) (ok := fun _ => True) (okp := fun _ => True) ?hr ?hp (fun _ hk => hk) trivial (Below.refl _ _) (Nat.le_refl _) (by simp) ?_; (case hd => rfl); (case hg => rfl); (case hr => first | (go_simp; done) | (go_simp; rfl)); (case hp => exact (Reps.none _ _)); intro v305 w4 ho5 hb hg_ hnew_; clear hg_ hnew_; (first | rw [← Ny304.out] at ho5 | (simp only [Int.reduceToNat] at ho5; rw [← Ny304.out] at ho5)); have n0_ := Aside0.mk (Kd.S_lower ho5 (below_size (bel2 HB GE302 GE303))); have n1_ := Aside0.mk (blk_below (g := gb302) (o := .cells #[.slice A0_0 l0_0.length c0_0] 31 (0, 0)) (bkl BK302) hb); have n2_ := Aside0.mk (blk_below (g := gb303) (o := .cells #[.slice none 0 0] 31 (0, 0)) (bkl BK303) hb); have n3_ := Aside0.mk (below_step (bel2 HB GE302 GE303) hb); clear BK302; clear BK303; clear HB; have HO306 := n0_; have BK302 := n1_; have BK303 := n2_; have HB := n3_; clear n0_ n1_ n2_ n3_; clear hb ho5; obtain ⟨Ao6, co6, eo6⟩ := Kd.S_slice HO306.out; subst eo6) | ((with_reducible refine gate_dst (N := 3) rfl ?_); refine box_event ?hg (N := 3) ?hd (cs := #[.slice none 0 0]) (t := 31) ?hr ?_; (case hd => rfl); (case hg => rfl); (case hr => first | (go_simp; done) | (go_simp; rfl)); intro gb307 hg w7 hbox hb; have n0_ := Aside0.mk (Kd.S_below (sdl HO306) hb); have n1_ := Aside0.mk (blk_below (g := gb302) (o := .cells #[.slice A0_0 l0_0.length c0_0] 31 (0, 0)) (bkl BK302) hb); have n2_ := Aside0.mk (blk_below (g := gb303) (o := .cells #[.slice none 0 0] 31 (0, 0)) (bkl BK303) hb); have n3_ := Aside0.mk (below_step (bel2 HB GE302 GE303) hb); have n4_ := Aside0.mk (hbox); have n5_ := Aside0.mk ((by rw [hg]; exact (below_size (bel2 HB GE302 GE303)) : w.heap.size ≤ gb307)); have n6_ := Aside0.mk ((by rw [hg]; exact (below_size (bel2 HB GE302 GE303)) : w.heap.size ≤ gb307)); have n7_ := Aside0.mk ((by rw [hg]; exact Nat.ne_of_lt (blk_lt (g := gb302) (o := .cells #[.slice A0_0 l0_0.length c0_0] 31 (0, 0)) (bkl BK302)) : gb302 ≠ gb307)); have n8_ := Aside0.mk ((by rw [hg]; exact Nat.ne_of_gt (blk_lt (g := gb302) (o := .cells #[.slice A0_0 l0_0.length c0_0] 31 (0, 0)) (bkl BK302)) : gb307 ≠ gb302)); have n9_ := Aside0.mk ((by rw [hg]; exact Nat.ne_of_lt (blk_lt (g := gb303) (o := .cells #[.slice none 0 0] 31 (0, 0)) (bkl BK303)) : gb303 ≠ gb307)); have n10_ := Aside0.mk ((by rw [hg]; exact Nat.ne_of_gt (blk_lt (g := gb303) (o := .cells #[.slice none 0 0] 31 (0, 0)) (bkl BK303)) : gb307 ≠ gb303)); clear HO306; clear BK302; clear BK303; clear HB; have HO306 := n0_; have BK302 := n1_; have BK303 := n2_; have HB := n3_; have BK307 := n4_; have GW307 := n5_; have GE307 := n6_; have NB302_307 := n7_; have NB307_302 := n8_; have NB303_307 := n9_; have NB307_303 := n10_; clear n0_ n1_ n2_ n3_ n4_ n5_ n6_ n7_ n8_ n9_ n10_; clear hb hbox hg; have hnb8 := NB307_302.out; have hnc8 := NB302_307.out; have hnb9 := NB307_303.out; have hnc9 := NB303_307.out; have hcz10_0 : w7.cell? ⟨gb307, 0, none⟩ = some (.slice none 0 0) := (blk_cell BK307.out 0).trans rfl; have hfz10_0 := blk_frozen BK307.out 0; have hnb11 := NB302_303.out; have hnc11 := NB303_302.out; have hcz12_0 : w7.cell? ⟨gb302, 0, none⟩ = some (.slice A0_0 l0_0.length c0_0) := (blk_cell BK302.out 0).trans rfl; have hfz12_0 := blk_frozen BK302.out 0))
 go_loopg [11] k (fun kq v11 w' => ∃ (x11_1 : Int) (x308000_1 : List (List Int)) (u308000 : Value), v11 = .int .i64 x11_1 ∧ Aside0 (impl_ownYard.l0 kq l0_0 (l0_0.length : Int) x11_1 x308000_1 = some r) ∧ Aside0 (kq ≤ k) ∧ Aside0 (Kd.S (Kd.slice 3 (Kd.int .i64)) 28 w' w.heap.size (fun _ => True) u308000 x308000_1) ∧ Aside0 (w'.heap[gb302]? = some (.cells #[(.slice A0_0 l0_0.length c0_0)] 31 (0, 0))) ∧ Aside0 (w'.heap[gb303]? = some (.cells #[(.slice none 0 0)] 31 (0, 0))) ∧ Aside0 (w'.heap[gb307]? = some (.cells #[u308000] 31 (0, 0))) ∧ Aside0 (Below w.heap.size w w'))
 case atStart => exact ⟨(0), (y304), (.slice Ao6 y304.length co6), (by first | rfl | (simp; done) | (simp [*]; done)), H', ⟨Nat.le_refl _⟩, ⟨by (with_reducible repeat (first | apply Kd.S_alloc | apply Kd.S_drewN | apply Kd.S_drew)); exact Kd.S_mono (Kd.S_far (p := ⟨gb307, 0, none⟩) (Kd.S_types HO306.out BK307.out (by decide)) (fun _ hk => hk.2) (.slice Ao6 y304.length co6)) (fun _ hk => trivial)⟩, ⟨by (with_reducible repeat (first | refine blk_drewN ?_ _ | refine blk_drew ?_ | refine blk_alloc ?_ _)); refine blk_far ?_ NB302_307.out _; (with_reducible repeat (first | refine blk_drewN ?_ _ | refine blk_drew ?_ | refine blk_alloc ?_ _)); exact BK302.out⟩, ⟨by (with_reducible repeat (first | refine blk_drewN ?_ _ | refine blk_drew ?_ | refine blk_alloc ?_ _)); refine blk_far ?_ NB303_307.out _; (with_reducible repeat (first | refine blk_drewN ?_ _ | refine blk_drew ?_ | refine blk_alloc ?_ _)); exact BK303.out⟩, ⟨by (with_reducible repeat (first | refine blk_drewN ?_ _ | refine blk_drew ?_ | refine blk_alloc ?_ _)); refine blk_put (cs := #[.slice none 0 0]) ?_ 0 _ rfl; (with_reducible repeat (first | refine blk_drewN ?_ _ | refine blk_drew ?_ | refine blk_alloc ?_ _)); exact BK307.out⟩, ⟨bel3 HB GE302 GE303 GE307⟩⟩
 case round =>
  clear H'
  try clear c1
  try clear p2
  try clear c4
  try clear c8
  try clear c9
  try clear c11
  try clear hcz10_0
  try clear hcz12_0
  try clear hfz10_0
  try clear hfz12_0
  obtain ⟨x11_1, x308000_1, u308000, rfl, HA, HK1, HO_308000, BK302, BK303, BK307, HB⟩ := hrel
  cases gk with
  | zero => exact absurd HA.out (by simp [impl_ownYard.l0])
  | succ k1 =>
   have H := HA.out
   clear HA
   simp only [impl_ownYard.l0] at H
   by_cases c13 : x11_1 < (l0_0.length : Int)
   ·rw [if_pos c13] at H
    have c13b0 : decide (x11_1 < (l0_0.length : Int)) = true := decide_eq_true c13
    clear c13
    by_cases c14 : 0 ≤ x11_1
    ·rw [if_pos c14] at H
     have c14b0 : decide (0 ≤ x11_1) = true := decide_eq_true c14
     clear c14
     by_cases c15 : x11_1 < (l0_0.length : Int)
     ·rw [if_pos c15] at H
      have c15b0 : decide (x11_1 < (l0_0.length : Int)) = true := decide_eq_true c15
      clear c15
      replace H := Option.bind_eq_some_iff.mp H
      obtain ⟨t309, A160, H⟩ := H
      replace H : (if x308000_1.length < 5864062014805 then (impl_ownYard.l0 k1 l0_0 (l0_0.length : Int) (wrap64 (x11_1 + 1)) (x308000_1 ++ [t309])) else (none)) = some r := H
      have A16 := Aside0.mk A160
      clear A160
      by_cases c17 : x308000_1.length < 5864062014805
      ·rw [if_pos c17] at H
       have LMc17 := Aside0.mk c17
       clear c17
       obtain ⟨y312, hy312⟩ : ∃ y_ : List (List Int), y_ = (x308000_1 ++ [t309]) := ⟨_, rfl⟩
       replace H : (impl_ownYard.l0 k1 l0_0 (l0_0.length : Int) (wrap64 (x11_1 + 1)) y312) = some r := by first | (rw [hy312]; with_reducible exact H) | (have H2_ := (Option.bind_some _ _).symm.trans H; rw [hy312]; with_reducible exact H2_) | (have H2_ := (Option.bind_some _ _).symm.trans H; with_reducible exact H2_) | with_reducible exact H | (rw [hy312]; exact H) | exact H
       have Ny312 := Aside0.mk hy312
       clear hy312
       have H' := Aside0.mk H
       clear H
       have p308 : 0 ≤ (x11_1 : Int) := oda
       have q308 : x11_1 < (l0_0.length : Int) := oda
       obtain ⟨ad308, A308_0, c308_0, e308, hx308_0, hl308_0, hi308_0⟩ := at_L1 HR0_0.out x11_1 p308 q308
       cases e308
       replace hx308_0 := cel HB hx308_0
       have HR308_0 := Aside0.mk hi308_0
       have HC308_0 := Aside0.mk hl308_0
       clear hi308_0 hl308_0
       replace p308 := eq_true p308
       replace q308 := eq_true q308
       try go_wp2
       have n0_ := Aside0.mk (Kd.S_drew HO_308000.out)
       have n1_ := Aside0.mk (blk_drew BK302.out)
       have n2_ := Aside0.mk (blk_drew BK303.out)
       have n3_ := Aside0.mk (blk_drew BK307.out)
       have n4_ := Aside0.mk (below_drew1 HB.out)
       clear HO_308000
       clear BK302
       clear BK303
       clear BK307
       clear HB
       have HO_308000 := n0_
       have BK302 := n1_
       have BK303 := n2_
       have BK307 := n3_
       have HB := n4_
       clear n0_ n1_ n2_ n3_ n4_
       refine start_ (n := 8) (S := fun w' => w'.cell? ⟨gb307, 0, none⟩ = some (u308000)) (ds := [7]) #[false, false, false, false, false, false, false, false] (by kernel_rfl) rfl rfl ((blk_cell BK307.out 0).trans rfl) (fun hHeld => ?_); refine with_tabW impl_ownYard.tab5 impl_ownYard.bits5 (fun HT_ HW_ => ?_)
       generalize wr.drew = w18 at HO_308000 BK302 BK303 BK307 HB hHeld ⊢
       refine pure_ (i := 0) (N := some 15) (v := ?_) (a' := ?_) #[true, false, false, false, false, false, false, false] rfl rfl (any_of HT_.out (by kernel_rfl)) (fun _ _ _ h => h) (Or.inl ⟨by rfl, ?_⟩) ?_ ?_
       rotate_left
       ·intro w'
        go_simp
        with_reducible rfl
       rotate_left
       ·simp only [Act.put, List.setIfInBounds_toArray, List.set_cons_zero, List.set_cons_succ, i64_w, i32_w]
        rfl
       refine pure_ (i := 2) (N := some 17) (v := ?_) (a' := ?_) #[true, false, true, false, false, false, false, false] rfl rfl (any_of HT_.out (by kernel_rfl)) (fun _ _ _ h => h) (Or.inl ⟨by rfl, ?_⟩) ?_ ?_
       rotate_left
       ·intro w'
        go_simp
        with_reducible rfl
       rotate_left
       ·simp only [Act.put, List.setIfInBounds_toArray, List.set_cons_zero, List.set_cons_succ, i64_w, i32_w]
        rfl
       refine take_ (i := 1) (N := some 16) (v := ?_) (a' := ?_) #[true, true, true, false, false, false, false, false] rfl rfl (take_ofW HT_.out HW_.out (by kernel_rfl)) (fun _ _ _ h => h) (Or.inl ⟨by rfl, ?_⟩) hHeld ?_ ?_
       rotate_left
       ·intro w' s0
        go_simp
        with_reducible rfl
       rotate_left
       ·simp only [Act.put, List.setIfInBounds_toArray, List.set_cons_zero, List.set_cons_succ, i64_w, i32_w]
        rfl
       refine one_ (i := 3) (N := some 18) #[true, true, true, true, false, false, false, false] rfl rfl (one_of HT_.out (by kernel_rfl)) (by decide) (fun K hK => ?_)
       refine goes_ Try.func61 (by kernel_rfl) rfl #[.slice A308_0 (rd_L1 l0_0 x11_1).length c308_0] (by rfl) rfl rfl gmp ?_
       with_reducible refine (slices_Clone_int_int.calls _ _ (rd_L1 l0_0 x11_1) t309 _ ?side1 ?side2 A16.out).mono ?_
       (case side1 => exact cdl (Kd.C_below HR308_0.out HB.out))
       (case side2 => exact HC308_0.out)
       rintro e w19 ⟨v310, rfl, ho0, hb⟩
       refine ⟨_, rfl, ?_⟩
       have n0_ := Aside0.mk (Kd.S_elder' (sdl HO_308000) (Kd.R_base ho0) hb)
       have n1_ := Aside0.mk (Kd.R_lower ho0 (below_size (bel3 HB GE302 GE303 GE307)))
       have n2_ := Aside0.mk (blk_below (g := gb302) (o := .cells #[.slice (some ad308) l0_0.length c0_0] 31 (0, 0)) (bkl BK302) hb)
       have n3_ := Aside0.mk (blk_below (g := gb303) (o := .cells #[.slice none 0 0] 31 (0, 0)) (bkl BK303) hb)
       have n4_ := Aside0.mk (blk_below (g := gb307) (o := .cells #[u308000] 31 (0, 0)) (bkl BK307) hb)
       have n5_ := Aside0.mk (below_step (bel3 HB GE302 GE303 GE307) hb)
       clear HO_308000
       clear BK302
       clear BK303
       clear BK307
       clear HB
       have HO_308000 := n0_
       have HO311 := n1_
       have BK302 := n2_
       have BK303 := n3_
       have BK307 := n4_
       have HB := n5_
       clear n0_ n1_ n2_ n3_ n4_ n5_
       (try clear hb)
       (try clear hb2)
       (try clear hk)
       (try clear hi)
       (try clear ho0)
       obtain ⟨Ao21, co21, eo21⟩ := Kd.R_slice HO311.out
       (first | subst eo21 | (injection eo21 with f1_ f2_ f3_; have f4_ := f1_.symm; have f5_ := f3_.symm; clear f1_ f2_ f3_; subst f4_; subst f5_))
       refine hK.out _ _ ((blk_cell BK307.out 0).trans rfl) (fun hHeld => ?_)
       clear hK K
       refine norm_ (a' := ?_) ?_ ?_
       rotate_left
       ·show Act.put _ (some 18) _ = _
        simp only [Act.put, List.setIfInBounds_toArray, List.set_cons_zero, List.set_cons_succ, i64_w, i32_w]
        rfl
       refine one_ (i := 4) (N := some 19) #[true, true, true, true, true, false, false, false] rfl rfl (one_of HT_.out (by kernel_rfl)) (by decide) (fun K hK => ?_)
       refine value_ (w1 := ?_) (v := ?_) (by rfl) rfl ?_ ?_
       rotate_left 2
       ·go_simp
        constructor
        ·rfl
        ·rfl
       refine hK.out _ _ ((blk_cell (blk_alloc BK307.out _) 0).trans rfl) (fun hHeld => ?_)
       clear hK K
       refine norm_ (a' := ?_) ?_ ?_
       rotate_left
       ·show Act.put _ (some 19) _ = _
        simp only [Act.put, List.setIfInBounds_toArray, List.set_cons_zero, List.set_cons_succ, i64_w, i32_w]
        rfl
       refine one_ (i := 5) (N := some 20) #[true, true, true, true, true, true, false, false] rfl rfl (one_of HT_.out (by kernel_rfl)) (by decide) (fun K hK => ?_)
       refine Kd.S_append_step (Kd.slice 3 (Kd.int .i64)) (w0 := w) w.heap.size (by rfl) (.tmp 16) (.tmp 19) 22 28 (.slice none 0 0) 24 rfl Try.underlying22 info28 rfl (by decide) (by omega) u308000 x308000_1 t309 [.slice Ao21 t309.length co21] (fun _ => True) (fun k_ => some k_ = (.slice Ao21 t309.length co21 : Value).ownBlock) rfl rfl ?aP (fun k_ hk_ => ((Kd.R_mono (ok' := fun k_ => ((fun _ => True)) k_ ∧ some k_ ≠ (u308000 : Value).ownBlock) (Kd.R_apart' (HO311.out) (Kd.S_typed HO_308000.out) (by decide)) (fun k_ hk => ⟨trivial, hk.2⟩))).1 k_ hk_.symm) ?aF ?aO ?aB ?aS ?aL ?_
       (case aP => exact Kd.M_row (Kd.R_mono (Kd.R_tight rfl (Kd.R_mono (ok' := fun k_ => ((fun _ => True)) k_ ∧ some k_ ≠ (u308000 : Value).ownBlock) (Kd.R_apart' (HO311.out) (Kd.S_typed HO_308000.out) (by decide)) (fun k_ hk => ⟨trivial, hk.2⟩))) (fun _ h_ => h_)))
       (case aB => exact (bel3 HB GE302 GE303 GE307))
       (case aF => exact (fun _ _ => trivial))
       (case aO => exact (by (with_reducible repeat (first | apply Kd.S_alloc | apply Kd.S_drewN | apply Kd.S_drew)); exact Kd.S_mono HO_308000.out (fun k_ hk => ⟨trivial, fun e_ => hk.2 e_⟩)))
       (case aS => exact (below_size (bel3 HB GE302 GE303 GE307)))
       (case aL => have := LMc17.out; omega)
       intro v313 w20 ho hb hg hat
       rw [← Ny312.out] at ho
       have n0_ := Aside0.mk (blk_grown (g := gb302) (o := .cells #[.slice (some ad308) l0_0.length c0_0] 31 (0, 0)) (bkl BK302) hg (Kd.S_ne HO_308000.out BK302.out (by decide)))
       have n1_ := Aside0.mk (blk_grown (g := gb303) (o := .cells #[.slice none 0 0] 31 (0, 0)) (bkl BK303) hg (Kd.S_ne HO_308000.out BK303.out (by decide)))
       have n2_ := Aside0.mk (blk_grown (g := gb307) (o := .cells #[u308000] 31 (0, 0)) (bkl BK307) hg (Kd.S_ne HO_308000.out BK307.out (by decide)))
       have n3_ := Aside0.mk (hb)
       have n4_ := Aside0.mk (ho)
       clear BK302
       clear BK303
       clear BK307
       clear HB
       clear HO_308000
       clear HO311
       have BK302 := n0_
       have BK303 := n1_
       have BK307 := n2_
       have HB := n3_
       have HO314 := n4_
       clear n0_ n1_ n2_ n3_ n4_
       clear ho hb hg hat
       obtain ⟨Ao22, co22, eo22⟩ := Kd.S_slice HO314.out
       (first | subst eo22 | (injection eo22 with f1_ f2_ f3_; have f4_ := f1_.symm; have f5_ := f3_.symm; clear f1_ f2_ f3_; subst f4_; subst f5_))
       refine hK.out _ _ ((blk_cell BK307.out 0).trans rfl) (fun hHeld => ?_)
       clear hK K
       refine norm_ (a' := ?_) ?_ ?_
       rotate_left
       ·show Act.put _ (some 20) _ = _
        simp only [Act.put, List.setIfInBounds_toArray, List.set_cons_zero, List.set_cons_succ, i64_w, i32_w]
        rfl
       refine pure_ (i := 6) (N := some 21) (v := ?_) (a' := ?_) #[true, true, true, true, true, true, true, false] rfl rfl (any_of HT_.out (by kernel_rfl)) (fun _ _ _ h => h) (Or.inl ⟨by rfl, ?_⟩) ?_ ?_
       rotate_left
       ·intro w'
        go_simp
        with_reducible rfl
       rotate_left
       ·simp only [Act.put, List.setIfInBounds_toArray, List.set_cons_zero, List.set_cons_succ, i64_w, i32_w]
        rfl
       refine last_ (i := 7) (N := none) #[true, true, true, true, true, true, true, true] rfl rfl (one_of HT_.out (by kernel_rfl)) (by decide) (fun K hK => ?_)
       have hs23 : w20.cell? ⟨gb307, 0, none⟩ = some (u308000) := (blk_cell BK307.out 0).trans rfl
       have hfs23 := blk_frozen BK307.out 0
       have hns23_0 := NB302_307.out
       have hns23_1 := NB303_307.out
       have hms23_0 := NB307_302.out
       have hms23_1 := NB307_303.out
       refine skip_ (w1 := ?_) (by rfl) rfl ?_ ?_
       rotate_left
       ·go_simp
        rfl
       refine hK.out _ _ ?_
       clear hK K
       refine done_ (done_of HT_.out (by kernel_rfl)) ?_
       try go_wp2
       go_roundg k1
       case measure => have := HK1.out; omega
       case rel => exact ⟨(wrap64 (x11_1 + 1)), (y312), (.slice Ao22 y312.length co22), (by first | rfl | (simp; done) | (simp [*]; done)), H', ⟨by have := HK1.out; omega⟩, ⟨by (with_reducible repeat (first | apply Kd.S_alloc | apply Kd.S_drewN | apply Kd.S_drew)); exact Kd.S_mono (Kd.S_far (p := ⟨gb307, 0, none⟩) (Kd.S_types HO314.out BK307.out (by decide)) (fun _ hk => hk.2) (.slice Ao22 y312.length co22)) (fun _ hk => trivial)⟩, ⟨by (with_reducible repeat (first | refine blk_drewN ?_ _ | refine blk_drew ?_ | refine blk_alloc ?_ _)); refine blk_far ?_ NB302_307.out _; (with_reducible repeat (first | refine blk_drewN ?_ _ | refine blk_drew ?_ | refine blk_alloc ?_ _)); exact BK302.out⟩, ⟨by (with_reducible repeat (first | refine blk_drewN ?_ _ | refine blk_drew ?_ | refine blk_alloc ?_ _)); refine blk_far ?_ NB303_307.out _; (with_reducible repeat (first | refine blk_drewN ?_ _ | refine blk_drew ?_ | refine blk_alloc ?_ _)); exact BK303.out⟩, ⟨by (with_reducible repeat (first | refine blk_drewN ?_ _ | refine blk_drew ?_ | refine blk_alloc ?_ _)); refine blk_put (cs := #[u308000]) ?_ 0 _ rfl; (with_reducible repeat (first | refine blk_drewN ?_ _ | refine blk_drew ?_ | refine blk_alloc ?_ _)); exact BK307.out⟩, ⟨bel3 HB GE302 GE303 GE307⟩⟩
      ·rw [if_neg c17] at H
       exact absurd H (by simp)
     ·rw [if_neg c15] at H
      exact absurd H (by simp)
    ·rw [if_neg c14] at H
     exact absurd H (by simp)
   ·rw [if_neg c13] at H
    have c13b0 : decide (x11_1 < (l0_0.length : Int)) = false := decide_eq_false c13
    clear c13
    obtain rfl := Option.some.inj H
    have hnb24 := NB307_302.out
    have hnc24 := NB302_307.out
    have hnb25 := NB307_303.out
    have hnc25 := NB303_307.out
    have hcz26_0 : wr.cell? ⟨gb307, 0, none⟩ = some (u308000) := (blk_cell BK307.out 0).trans rfl
    have hfz26_0 := blk_frozen BK307.out 0
    obtain ⟨Ao27, co27, eo27⟩ := Kd.S_slice HO_308000.out
    subst eo27
    have hnb28 := NB303_302.out
    have hnc28 := NB302_303.out
    have hcz29_0 : wr.cell? ⟨gb303, 0, none⟩ = some (.slice none 0 0) := (blk_cell BK303.out 0).trans rfl
    have hfz29_0 := blk_frozen BK303.out 0
    go_wp2
    refine bodyPost_ret (results_cell_row rfl _ _ gb303 31 #[.slice Ao27 x308000_1.length co27] (0, 0) _ rfl (by (with_reducible repeat (first | refine blk_drewN ?_ _ | refine blk_drew ?_ | refine blk_alloc ?_ _)); refine blk_put (cs := #[.slice none 0 0]) ?_ 0 _ rfl; (with_reducible repeat (first | refine blk_drewN ?_ _ | refine blk_drew ?_ | refine blk_alloc ?_ _)); exact BK303.out) Try.underlying31 rfl (by kernel_rfl)) rfl ?_
    exact ⟨_, by first | rfl | (simp [errW_none, errW_some] <;> rfl) | (simp [*, errW_none, errW_some] <;> rfl), by (with_reducible repeat (first | apply Kd.S_alloc | apply Kd.S_drewN | apply Kd.S_drew)); exact Kd.S_mono (Kd.S_far (p := ⟨gb303, 0, none⟩) (Kd.S_types HO_308000.out BK303.out (by decide)) (fun _ hk => hk.2) (.slice Ao27 x308000_1.length co27)) (fun _ hk => trivial), bel3 HB GE302 GE303 GE307⟩

/-! ### impl_brokenRules: function 50 -/
mutual
def impl_brokenRules.j0 : Nat → Int → Int → List Int → ByteArray → Int → Int → Int → Int → ByteArray → Int → Int → Int → Int → Option (List Int)
 | 0, _, _, _, _, _, _, _, _, _, _, _, _, _ => none
 | k + 1, x2, x3, x11, x321000, x321001, x321002, x321003, x321004, x324000, x324001, x324002, x324003, x324004 => if x321001 = x324001 then (impl_brokenRules.j1 k x2 x3 x11 x321000 x321001 x321002 x321003 x321004) else (if x11.length < 17592186044416 then (impl_brokenRules.j1 k x2 x3 (x11 ++ [2]) x321000 x321001 x321002 x321003 x321004) else (none))
def impl_brokenRules.j1 : Nat → Int → Int → List Int → ByteArray → Int → Int → Int → Int → Option (List Int)
 | 0, _, _, _, _, _, _, _, _ => none
 | k + 1, x2, x3, x11, x321000, x321001, x321002, x321003, x321004 => if x321003 = 3 then (if x11.length < 17592186044416 then ((some (x11 ++ [3] : List Int)).bind fun y330 => (if x321003 = 2 then (if x3 ≥ x2 then (if y330.length < 17592186044416 then (some (y330 ++ [4])) else (none)) else (some y330)) else (some y330))) else (none)) else (if x321003 = 2 then (if x3 ≥ x2 then (if x11.length < 17592186044416 then (some (x11 ++ [4])) else (none)) else (some x11)) else (some x11))
end
def impl_brokenRules.f (k : Nat) (l0 : List Int) (l1 : List (S61)) (a2 : Int) (a3 : Int) (a4 : Int) : Option (List Int) := (some (([] : List Int) : List Int)).bind fun y315 => (if 0 ≤ a4 then (if a4 < (l0.length : Int) then (if 0 ≤ (wrap64 ((rd l0 a4) - 1)) then (if (wrap64 ((rd l0 a4) - 1)) < (l1.length : Int) then (if a4 > 0 then (if 0 ≤ (wrap64 (a4 - 1)) then (if (wrap64 (a4 - 1)) < (l0.length : Int) then (if 0 ≤ (wrap64 ((rd l0 (wrap64 (a4 - 1))) - 1)) then (if (wrap64 ((rd l0 (wrap64 (a4 - 1))) - 1)) < (l1.length : Int) then (if ((rd_T61 l1 (wrap64 ((rd l0 a4) - 1))).f2) > ((rd_T61 l1 (wrap64 ((rd l0 (wrap64 (a4 - 1))) - 1))).f2) then (if y315.length < 17592186044416 then (impl_brokenRules.j0 k a2 a3 (y315 ++ [1]) ((rd_T61 l1 (wrap64 ((rd l0 a4) - 1))).f0) ((rd_T61 l1 (wrap64 ((rd l0 a4) - 1))).f1) ((rd_T61 l1 (wrap64 ((rd l0 a4) - 1))).f2) ((rd_T61 l1 (wrap64 ((rd l0 a4) - 1))).f3) ((rd_T61 l1 (wrap64 ((rd l0 a4) - 1))).f4) ((rd_T61 l1 (wrap64 ((rd l0 (wrap64 (a4 - 1))) - 1))).f0) ((rd_T61 l1 (wrap64 ((rd l0 (wrap64 (a4 - 1))) - 1))).f1) ((rd_T61 l1 (wrap64 ((rd l0 (wrap64 (a4 - 1))) - 1))).f2) ((rd_T61 l1 (wrap64 ((rd l0 (wrap64 (a4 - 1))) - 1))).f3) ((rd_T61 l1 (wrap64 ((rd l0 (wrap64 (a4 - 1))) - 1))).f4)) else (none)) else (impl_brokenRules.j0 k a2 a3 y315 ((rd_T61 l1 (wrap64 ((rd l0 a4) - 1))).f0) ((rd_T61 l1 (wrap64 ((rd l0 a4) - 1))).f1) ((rd_T61 l1 (wrap64 ((rd l0 a4) - 1))).f2) ((rd_T61 l1 (wrap64 ((rd l0 a4) - 1))).f3) ((rd_T61 l1 (wrap64 ((rd l0 a4) - 1))).f4) ((rd_T61 l1 (wrap64 ((rd l0 (wrap64 (a4 - 1))) - 1))).f0) ((rd_T61 l1 (wrap64 ((rd l0 (wrap64 (a4 - 1))) - 1))).f1) ((rd_T61 l1 (wrap64 ((rd l0 (wrap64 (a4 - 1))) - 1))).f2) ((rd_T61 l1 (wrap64 ((rd l0 (wrap64 (a4 - 1))) - 1))).f3) ((rd_T61 l1 (wrap64 ((rd l0 (wrap64 (a4 - 1))) - 1))).f4))) else (none)) else (none)) else (none)) else (none)) else (if ((rd_T61 l1 (wrap64 ((rd l0 a4) - 1))).f3) = 2 then (if a3 ≥ a2 then (if y315.length < 17592186044416 then (some (y315 ++ [4])) else (none)) else (some y315)) else (some y315))) else (none)) else (none)) else (none)) else (none))
theorem impl_brokenRules.mono_l : ∀ k, (∀ y0 y1 y2 y3 y4 y5 y6 y7 y8 y9 y10 y11 y12, LeO (impl_brokenRules.j0 k y0 y1 y2 y3 y4 y5 y6 y7 y8 y9 y10 y11 y12) (impl_brokenRules.j0 (k + 1) y0 y1 y2 y3 y4 y5 y6 y7 y8 y9 y10 y11 y12)) ∧ (∀ y0 y1 y2 y3 y4 y5 y6 y7, LeO (impl_brokenRules.j1 k y0 y1 y2 y3 y4 y5 y6 y7) (impl_brokenRules.j1 (k + 1) y0 y1 y2 y3 y4 y5 y6 y7))
 | 0 => ⟨fun _ _ _ _ _ _ _ _ _ _ _ _ _ r h => by simp [impl_brokenRules.j0] at h, fun _ _ _ _ _ _ _ _ r h => by simp [impl_brokenRules.j1] at h⟩
 | k + 1 => by
  obtain ⟨ih0, ih1⟩ := impl_brokenRules.mono_l k
  refine ⟨?_, ?_⟩
  ·intro y0 y1 y2 y3 y4 y5 y6 y7 y8 y9 y10 y11 y12
   unfold impl_brokenRules.j0
   repeat' first
   | (with_reducible exact ih0 _ _ _ _ _ _ _ _ _ _ _ _ _)
   | (with_reducible exact ih1 _ _ _ _ _ _ _ _)
   | (with_reducible exact LeO.refl _)
   | (with_reducible exact LeO.none _)
   | (with_reducible refine LeO.ite ?_ ?_)
   | (with_reducible refine LeO.bind ?_ (fun _ => ?_))
   | exact ih0 _ _ _ _ _ _ _ _ _ _ _ _ _
   | exact ih1 _ _ _ _ _ _ _ _
   | exact LeO.none _
   | refine LeO.ite ?_ ?_
   | refine LeO.bind ?_ (fun _ => ?_)
  ·intro y0 y1 y2 y3 y4 y5 y6 y7
   unfold impl_brokenRules.j1
   repeat' first
   | (with_reducible exact ih0 _ _ _ _ _ _ _ _ _ _ _ _ _)
   | (with_reducible exact ih1 _ _ _ _ _ _ _ _)
   | (with_reducible exact LeO.refl _)
   | (with_reducible exact LeO.none _)
   | (with_reducible refine LeO.ite ?_ ?_)
   | (with_reducible refine LeO.bind ?_ (fun _ => ?_))
   | exact ih0 _ _ _ _ _ _ _ _ _ _ _ _ _
   | exact ih1 _ _ _ _ _ _ _ _
   | exact LeO.none _
   | refine LeO.ite ?_ ?_
   | refine LeO.bind ?_ (fun _ => ?_)
theorem impl_brokenRules.mono : ∀ a0 a1 a2 a3 a4 k, LeO (impl_brokenRules.f k a0 a1 a2 a3 a4) (impl_brokenRules.f (k + 1) a0 a1 a2 a3 a4) := by
 intro a0 a1 a2 a3 a4 k
 obtain ⟨ih0, ih1⟩ := impl_brokenRules.mono_l k
 unfold impl_brokenRules.f
 repeat' first
   | (with_reducible exact ih0 _ _ _ _ _ _ _ _ _ _ _ _ _)
   | (with_reducible exact ih1 _ _ _ _ _ _ _ _)
   | (with_reducible exact LeO.refl _)
   | (with_reducible exact LeO.none _)
   | (with_reducible refine LeO.ite ?_ ?_)
   | (with_reducible refine LeO.bind ?_ (fun _ => ?_))
   | exact ih0 _ _ _ _ _ _ _ _ _ _ _ _ _
   | exact ih1 _ _ _ _ _ _ _ _
   | exact LeO.none _
   | refine LeO.ite ?_ ?_
   | refine LeO.bind ?_ (fun _ => ?_)
set_option maxHeartbeats 8000000 in
set_option maxRecDepth 100000 in
theorem impl_brokenRules.calls (k : Nat) (A0 : Option Addr) (c0 : Nat) (l0 : List Int) (A1 : Option Addr) (c1 : Nat) (l1 : List (S61)) (a2 : Int) (a3 : Int) (a4 : Int) (r : List Int) (w : World) (hr0 : Kd.C (Kd.int .i64) w A0 l0.length l0) (hc0 : l0.length ≤ c0) (hr1 : Kd.C k61 w A1 l1.length l1) (hc1 : l1.length ≤ c1) (h : impl_brokenRules.f k l0 l1 a2 a3 a4 = some r) :
  Calls Try.prog 50 #[.slice A0 l0.length c0, .slice A1 l1.length c1, .int .i64 a2, .int .i64 a3, .int .i64 a4] w fun e w' => ∃ v0_ : Value, e = .returned (v0_) ∧ Kd.R (Kd.int .i64) 3 w' w.heap.size (fun _ => True) v0_ r ∧ Below w.heap.size w w' := by
 have hu61 := Try.underlying61
 have HR0 := Aside0.mk hr0
 have HC0 := Aside0.mk hc0
 clear hr0 hc0
 have HR1 := Aside0.mk hr1
 have HC1 := Aside0.mk hc1
 clear hr1 hc1
 have HB := Aside0.mk (Below.refl w.heap.size w)
 have H : ((some (([] : List Int) : List Int)).bind fun y315 => (if 0 ≤ a4 then (if a4 < (l0.length : Int) then (if 0 ≤ (wrap64 ((rd l0 a4) - 1)) then (if (wrap64 ((rd l0 a4) - 1)) < (l1.length : Int) then (if a4 > 0 then (if 0 ≤ (wrap64 (a4 - 1)) then (if (wrap64 (a4 - 1)) < (l0.length : Int) then (if 0 ≤ (wrap64 ((rd l0 (wrap64 (a4 - 1))) - 1)) then (if (wrap64 ((rd l0 (wrap64 (a4 - 1))) - 1)) < (l1.length : Int) then (if ((rd_T61 l1 (wrap64 ((rd l0 a4) - 1))).f2) > ((rd_T61 l1 (wrap64 ((rd l0 (wrap64 (a4 - 1))) - 1))).f2) then (if y315.length < 17592186044416 then (impl_brokenRules.j0 k a2 a3 (y315 ++ [1]) ((rd_T61 l1 (wrap64 ((rd l0 a4) - 1))).f0) ((rd_T61 l1 (wrap64 ((rd l0 a4) - 1))).f1) ((rd_T61 l1 (wrap64 ((rd l0 a4) - 1))).f2) ((rd_T61 l1 (wrap64 ((rd l0 a4) - 1))).f3) ((rd_T61 l1 (wrap64 ((rd l0 a4) - 1))).f4) ((rd_T61 l1 (wrap64 ((rd l0 (wrap64 (a4 - 1))) - 1))).f0) ((rd_T61 l1 (wrap64 ((rd l0 (wrap64 (a4 - 1))) - 1))).f1) ((rd_T61 l1 (wrap64 ((rd l0 (wrap64 (a4 - 1))) - 1))).f2) ((rd_T61 l1 (wrap64 ((rd l0 (wrap64 (a4 - 1))) - 1))).f3) ((rd_T61 l1 (wrap64 ((rd l0 (wrap64 (a4 - 1))) - 1))).f4)) else (none)) else (impl_brokenRules.j0 k a2 a3 y315 ((rd_T61 l1 (wrap64 ((rd l0 a4) - 1))).f0) ((rd_T61 l1 (wrap64 ((rd l0 a4) - 1))).f1) ((rd_T61 l1 (wrap64 ((rd l0 a4) - 1))).f2) ((rd_T61 l1 (wrap64 ((rd l0 a4) - 1))).f3) ((rd_T61 l1 (wrap64 ((rd l0 a4) - 1))).f4) ((rd_T61 l1 (wrap64 ((rd l0 (wrap64 (a4 - 1))) - 1))).f0) ((rd_T61 l1 (wrap64 ((rd l0 (wrap64 (a4 - 1))) - 1))).f1) ((rd_T61 l1 (wrap64 ((rd l0 (wrap64 (a4 - 1))) - 1))).f2) ((rd_T61 l1 (wrap64 ((rd l0 (wrap64 (a4 - 1))) - 1))).f3) ((rd_T61 l1 (wrap64 ((rd l0 (wrap64 (a4 - 1))) - 1))).f4))) else (none)) else (none)) else (none)) else (none)) else (if ((rd_T61 l1 (wrap64 ((rd l0 a4) - 1))).f3) = 2 then (if a3 ≥ a2 then (if y315.length < 17592186044416 then (some (y315 ++ [4])) else (none)) else (some y315)) else (some y315))) else (none)) else (none)) else (none)) else (none))) = some r := h
 clear h
 obtain ⟨y315, hy315⟩ : ∃ y_ : List Int, y_ = (([] : List Int)) := ⟨_, rfl⟩
 replace H : (if 0 ≤ a4 then (if a4 < (l0.length : Int) then (if 0 ≤ (wrap64 ((rd l0 a4) - 1)) then (if (wrap64 ((rd l0 a4) - 1)) < (l1.length : Int) then (if a4 > 0 then (if 0 ≤ (wrap64 (a4 - 1)) then (if (wrap64 (a4 - 1)) < (l0.length : Int) then (if 0 ≤ (wrap64 ((rd l0 (wrap64 (a4 - 1))) - 1)) then (if (wrap64 ((rd l0 (wrap64 (a4 - 1))) - 1)) < (l1.length : Int) then (if ((rd_T61 l1 (wrap64 ((rd l0 a4) - 1))).f2) > ((rd_T61 l1 (wrap64 ((rd l0 (wrap64 (a4 - 1))) - 1))).f2) then (if y315.length < 17592186044416 then (impl_brokenRules.j0 k a2 a3 (y315 ++ [1]) ((rd_T61 l1 (wrap64 ((rd l0 a4) - 1))).f0) ((rd_T61 l1 (wrap64 ((rd l0 a4) - 1))).f1) ((rd_T61 l1 (wrap64 ((rd l0 a4) - 1))).f2) ((rd_T61 l1 (wrap64 ((rd l0 a4) - 1))).f3) ((rd_T61 l1 (wrap64 ((rd l0 a4) - 1))).f4) ((rd_T61 l1 (wrap64 ((rd l0 (wrap64 (a4 - 1))) - 1))).f0) ((rd_T61 l1 (wrap64 ((rd l0 (wrap64 (a4 - 1))) - 1))).f1) ((rd_T61 l1 (wrap64 ((rd l0 (wrap64 (a4 - 1))) - 1))).f2) ((rd_T61 l1 (wrap64 ((rd l0 (wrap64 (a4 - 1))) - 1))).f3) ((rd_T61 l1 (wrap64 ((rd l0 (wrap64 (a4 - 1))) - 1))).f4)) else (none)) else (impl_brokenRules.j0 k a2 a3 y315 ((rd_T61 l1 (wrap64 ((rd l0 a4) - 1))).f0) ((rd_T61 l1 (wrap64 ((rd l0 a4) - 1))).f1) ((rd_T61 l1 (wrap64 ((rd l0 a4) - 1))).f2) ((rd_T61 l1 (wrap64 ((rd l0 a4) - 1))).f3) ((rd_T61 l1 (wrap64 ((rd l0 a4) - 1))).f4) ((rd_T61 l1 (wrap64 ((rd l0 (wrap64 (a4 - 1))) - 1))).f0) ((rd_T61 l1 (wrap64 ((rd l0 (wrap64 (a4 - 1))) - 1))).f1) ((rd_T61 l1 (wrap64 ((rd l0 (wrap64 (a4 - 1))) - 1))).f2) ((rd_T61 l1 (wrap64 ((rd l0 (wrap64 (a4 - 1))) - 1))).f3) ((rd_T61 l1 (wrap64 ((rd l0 (wrap64 (a4 - 1))) - 1))).f4))) else (none)) else (none)) else (none)) else (none)) else (if ((rd_T61 l1 (wrap64 ((rd l0 a4) - 1))).f3) = 2 then (if a3 ≥ a2 then (if y315.length < 17592186044416 then (some (y315 ++ [4])) else (none)) else (some y315)) else (some y315))) else (none)) else (none)) else (none)) else (none)) = some r := by first | (rw [hy315]; with_reducible exact H) | (have H2_ := (Option.bind_some _ _).symm.trans H; rw [hy315]; with_reducible exact H2_) | (have H2_ := (Option.bind_some _ _).symm.trans H; with_reducible exact H2_) | with_reducible exact H | (rw [hy315]; exact H) | exact H
 have Ny315 := Aside0.mk hy315
 clear hy315
 by_cases c6 : 0 ≤ a4
 ·rw [if_pos c6] at H
  have c6b0 : decide (0 ≤ a4) = true := decide_eq_true c6
  clear c6
  by_cases c7 : a4 < (l0.length : Int)
  ·rw [if_pos c7] at H
   have c7b0 : decide (a4 < (l0.length : Int)) = true := decide_eq_true c7
   clear c7
   obtain ⟨ji8, hji8⟩ : ∃ j_ : Int, (wrap64 ((rd l0 a4) - 1)) = j_ := ⟨_, rfl⟩
   replace H : (if 0 ≤ (ji8) then (if (ji8) < (l1.length : Int) then (if a4 > 0 then (if 0 ≤ (wrap64 (a4 - 1)) then (if (wrap64 (a4 - 1)) < (l0.length : Int) then (if 0 ≤ (wrap64 ((rd l0 (wrap64 (a4 - 1))) - 1)) then (if (wrap64 ((rd l0 (wrap64 (a4 - 1))) - 1)) < (l1.length : Int) then (if ((rd_T61 l1 (ji8)).f2) > ((rd_T61 l1 (wrap64 ((rd l0 (wrap64 (a4 - 1))) - 1))).f2) then (if y315.length < 17592186044416 then (impl_brokenRules.j0 k a2 a3 (y315 ++ [1]) ((rd_T61 l1 (ji8)).f0) ((rd_T61 l1 (ji8)).f1) ((rd_T61 l1 (ji8)).f2) ((rd_T61 l1 (ji8)).f3) ((rd_T61 l1 (ji8)).f4) ((rd_T61 l1 (wrap64 ((rd l0 (wrap64 (a4 - 1))) - 1))).f0) ((rd_T61 l1 (wrap64 ((rd l0 (wrap64 (a4 - 1))) - 1))).f1) ((rd_T61 l1 (wrap64 ((rd l0 (wrap64 (a4 - 1))) - 1))).f2) ((rd_T61 l1 (wrap64 ((rd l0 (wrap64 (a4 - 1))) - 1))).f3) ((rd_T61 l1 (wrap64 ((rd l0 (wrap64 (a4 - 1))) - 1))).f4)) else (none)) else (impl_brokenRules.j0 k a2 a3 y315 ((rd_T61 l1 (ji8)).f0) ((rd_T61 l1 (ji8)).f1) ((rd_T61 l1 (ji8)).f2) ((rd_T61 l1 (ji8)).f3) ((rd_T61 l1 (ji8)).f4) ((rd_T61 l1 (wrap64 ((rd l0 (wrap64 (a4 - 1))) - 1))).f0) ((rd_T61 l1 (wrap64 ((rd l0 (wrap64 (a4 - 1))) - 1))).f1) ((rd_T61 l1 (wrap64 ((rd l0 (wrap64 (a4 - 1))) - 1))).f2) ((rd_T61 l1 (wrap64 ((rd l0 (wrap64 (a4 - 1))) - 1))).f3) ((rd_T61 l1 (wrap64 ((rd l0 (wrap64 (a4 - 1))) - 1))).f4))) else (none)) else (none)) else (none)) else (none)) else (if ((rd_T61 l1 (ji8)).f3) = 2 then (if a3 ≥ a2 then (if y315.length < 17592186044416 then (some (y315 ++ [4])) else (none)) else (some y315)) else (some y315))) else (none)) else (none)) = some r := by first | (rw [hji8] at H; exact H) | (simp only [hji8] at H ⊢; exact H)
   have hji8w : (IntKind.i64.wrap ((rd l0 a4) - 1)) = ji8 := (i64_w _).trans hji8
   by_cases c9 : 0 ≤ (ji8)
   ·rw [if_pos c9] at H
    have c9b0 : decide (0 ≤ (ji8)) = true := decide_eq_true c9
    clear c9
    by_cases c10 : (ji8) < (l1.length : Int)
    ·rw [if_pos c10] at H
     have c10b0 : decide ((ji8) < (l1.length : Int)) = true := decide_eq_true c10
     clear c10
     by_cases c11 : a4 > 0
     ·rw [if_pos c11] at H
      have c11b0 : decide (0 < a4) = true := decide_eq_true c11
      clear c11
      obtain ⟨ji12, hji12⟩ : ∃ j_ : Int, (wrap64 (a4 - 1)) = j_ := ⟨_, rfl⟩
      replace H : (if 0 ≤ (ji12) then (if (ji12) < (l0.length : Int) then (if 0 ≤ (wrap64 ((rd l0 (ji12)) - 1)) then (if (wrap64 ((rd l0 (ji12)) - 1)) < (l1.length : Int) then (if ((rd_T61 l1 (ji8)).f2) > ((rd_T61 l1 (wrap64 ((rd l0 (ji12)) - 1))).f2) then (if y315.length < 17592186044416 then (impl_brokenRules.j0 k a2 a3 (y315 ++ [1]) ((rd_T61 l1 (ji8)).f0) ((rd_T61 l1 (ji8)).f1) ((rd_T61 l1 (ji8)).f2) ((rd_T61 l1 (ji8)).f3) ((rd_T61 l1 (ji8)).f4) ((rd_T61 l1 (wrap64 ((rd l0 (ji12)) - 1))).f0) ((rd_T61 l1 (wrap64 ((rd l0 (ji12)) - 1))).f1) ((rd_T61 l1 (wrap64 ((rd l0 (ji12)) - 1))).f2) ((rd_T61 l1 (wrap64 ((rd l0 (ji12)) - 1))).f3) ((rd_T61 l1 (wrap64 ((rd l0 (ji12)) - 1))).f4)) else (none)) else (impl_brokenRules.j0 k a2 a3 y315 ((rd_T61 l1 (ji8)).f0) ((rd_T61 l1 (ji8)).f1) ((rd_T61 l1 (ji8)).f2) ((rd_T61 l1 (ji8)).f3) ((rd_T61 l1 (ji8)).f4) ((rd_T61 l1 (wrap64 ((rd l0 (ji12)) - 1))).f0) ((rd_T61 l1 (wrap64 ((rd l0 (ji12)) - 1))).f1) ((rd_T61 l1 (wrap64 ((rd l0 (ji12)) - 1))).f2) ((rd_T61 l1 (wrap64 ((rd l0 (ji12)) - 1))).f3) ((rd_T61 l1 (wrap64 ((rd l0 (ji12)) - 1))).f4))) else (none)) else (none)) else (none)) else (none)) = some r := by first | (rw [hji12] at H; exact H) | (simp only [hji12] at H ⊢; exact H)
      have hji12w : (IntKind.i64.wrap (a4 - 1)) = ji12 := (i64_w _).trans hji12
      by_cases c13 : 0 ≤ (ji12)
      ·rw [if_pos c13] at H
       have c13b0 : decide (0 ≤ (ji12)) = true := decide_eq_true c13
       clear c13
       by_cases c14 : (ji12) < (l0.length : Int)
       ·rw [if_pos c14] at H
        have c14b0 : decide ((ji12) < (l0.length : Int)) = true := decide_eq_true c14
        clear c14
        obtain ⟨ji15, hji15⟩ : ∃ j_ : Int, (wrap64 ((rd l0 (ji12)) - 1)) = j_ := ⟨_, rfl⟩
        replace H : (if 0 ≤ (ji15) then (if (ji15) < (l1.length : Int) then (if ((rd_T61 l1 (ji8)).f2) > ((rd_T61 l1 (ji15)).f2) then (if y315.length < 17592186044416 then (impl_brokenRules.j0 k a2 a3 (y315 ++ [1]) ((rd_T61 l1 (ji8)).f0) ((rd_T61 l1 (ji8)).f1) ((rd_T61 l1 (ji8)).f2) ((rd_T61 l1 (ji8)).f3) ((rd_T61 l1 (ji8)).f4) ((rd_T61 l1 (ji15)).f0) ((rd_T61 l1 (ji15)).f1) ((rd_T61 l1 (ji15)).f2) ((rd_T61 l1 (ji15)).f3) ((rd_T61 l1 (ji15)).f4)) else (none)) else (impl_brokenRules.j0 k a2 a3 y315 ((rd_T61 l1 (ji8)).f0) ((rd_T61 l1 (ji8)).f1) ((rd_T61 l1 (ji8)).f2) ((rd_T61 l1 (ji8)).f3) ((rd_T61 l1 (ji8)).f4) ((rd_T61 l1 (ji15)).f0) ((rd_T61 l1 (ji15)).f1) ((rd_T61 l1 (ji15)).f2) ((rd_T61 l1 (ji15)).f3) ((rd_T61 l1 (ji15)).f4))) else (none)) else (none)) = some r := by first | (rw [hji15] at H; exact H) | (simp only [hji15] at H ⊢; exact H)
        have hji15w : (IntKind.i64.wrap ((rd l0 (ji12)) - 1)) = ji15 := (i64_w _).trans hji15
        by_cases c16 : 0 ≤ (ji15)
        ·rw [if_pos c16] at H
         have c16b0 : decide (0 ≤ (ji15)) = true := decide_eq_true c16
         clear c16
         by_cases c17 : (ji15) < (l1.length : Int)
         ·rw [if_pos c17] at H
          have c17b0 : decide ((ji15) < (l1.length : Int)) = true := decide_eq_true c17
          clear c17
          have HC18 := Aside0.mk H
          clear H
          go_enter Try.func50, Try.ntmps50
          go_upto_if 38 with (first | ((with_reducible refine gate_dst (N := 14) rfl ?_); refine Kd.R_lit (Kd.int .i64) _ 3 ?hg (N := 14) ?hd (xs := ([] : List Int)) (inner := []) (ok := fun _ => True) (okp := fun _ => True) ?hr ?hp (fun _ hk => hk) trivial (Below.refl _ _) (Nat.le_refl _) (by simp) ?_; (case hd => rfl); (case hg => rfl); (case hr => first | (go_simp; done) | (go_simp; rfl)); (case hp => exact (Reps.none _ _)); intro v316 w19 ho20 hb hg_ hnew_; clear hg_ hnew_; (first | rw [← Ny315.out] at ho20 | (simp only [Int.reduceToNat] at ho20; rw [← Ny315.out] at ho20)); have n0_ := Aside0.mk (Kd.R_lower ho20 (below_size (bel HB))); have n1_ := Aside0.mk (below_step (bel HB) hb); clear HB; have HO317 := n0_; have HB := n1_; clear n0_ n1_; clear hb ho20; have p318 : 0 ≤ (a4 : Int) := oda; have q318 : a4 < (l0.length : Int) := oda; obtain ⟨ad318, e318, hx318_0⟩ := Kd.at_int HR0.out a4 p318 q318; cases e318; replace hx318_0 := cel HB hx318_0; replace p318 := eq_true p318; replace q318 := eq_true q318; have p319 : 0 ≤ ((ji8) : Int) := oda; have q319 : (ji8) < (l1.length : Int) := oda; obtain ⟨ad319, e319, hx319_0, hx319_1, hx319_2, hx319_3, hx319_4⟩ := at_T61 HR1.out (ji8) p319 q319; cases e319; replace hx319_0 := cel HB hx319_0; replace hx319_1 := cel HB hx319_1; replace hx319_2 := cel HB hx319_2; replace hx319_3 := cel HB hx319_3; replace hx319_4 := cel HB hx319_4; replace p319 := eq_true p319; replace q319 := eq_true q319) | ((with_reducible refine gate_dst (N := 12) rfl ?_); refine box_event ?hg (N := 12) ?hd (cs := #[.string (⟨#[]⟩ : ByteArray), .int .i64 0, .int .i64 0, .int .i64 0, .int .i64 0]) (t := 61) ?hr ?_; (case hd => rfl); (case hg => rfl); (case hr => first | (go_simp; done) | (go_simp; rfl)); intro gb320 hg w21 hbox hb; have n0_ := Aside0.mk (Kd.R_below (rdl HO317) hb); have n1_ := Aside0.mk (below_step (bel HB) hb); have n2_ := Aside0.mk (hbox); have n3_ := Aside0.mk ((by rw [hg]; exact (below_size (bel HB)) : w.heap.size ≤ gb320)); have n4_ := Aside0.mk ((by rw [hg]; exact (below_size (bel HB)) : w.heap.size ≤ gb320)); clear HO317; clear HB; have HO317 := n0_; have HB := n1_; have BK320 := n2_; have GW320 := n3_; have GE320 := n4_; clear n0_ n1_ n2_ n3_ n4_; clear hb hbox hg; have hcz22_0 : w21.cell? ⟨gb320, 0, none⟩ = some (.string (⟨#[]⟩ : ByteArray)) := (blk_cell BK320.out 0).trans rfl; have hcz22_1 : w21.cell? ⟨gb320, 1, none⟩ = some (.int .i64 0) := (blk_cell BK320.out 1).trans rfl; have hcz22_2 : w21.cell? ⟨gb320, 2, none⟩ = some (.int .i64 0) := (blk_cell BK320.out 2).trans rfl; have hcz22_3 : w21.cell? ⟨gb320, 3, none⟩ = some (.int .i64 0) := (blk_cell BK320.out 3).trans rfl; have hcz22_4 : w21.cell? ⟨gb320, 4, none⟩ = some (.int .i64 0) := (blk_cell BK320.out 4).trans rfl; have hfz22_0 := blk_frozen BK320.out 0; have hfz22_1 := blk_frozen BK320.out 1; have hfz22_2 := blk_frozen BK320.out 2; have hfz22_3 := blk_frozen BK320.out 3; have hfz22_4 := blk_frozen BK320.out 4; have p321 : 0 ≤ ((ji12) : Int) := oda; have q321 : (ji12) < (l0.length : Int) := oda; obtain ⟨ad321, e321, hx321_0⟩ := Kd.at_int HR0.out (ji12) p321 q321; obtain rfl : ad318 = ad321 := (by injection e321); have hn321_0 : ad318.block ≠ gb320 := Nat.ne_of_lt (Nat.lt_of_lt_of_le (by have := World.block_lt_of_cell? _ _ hx321_0; first | rwa [add_block] at this | exact this) GW320.out); have hn321_1 : ad318.block ≠ gb320 := Nat.ne_of_lt (Nat.lt_of_lt_of_le (by have := World.block_lt_of_cell? _ _ hx321_0; first | rwa [add_block] at this | exact this) GW320.out); have hn321_2 : ad318.block ≠ gb320 := Nat.ne_of_lt (Nat.lt_of_lt_of_le (by have := World.block_lt_of_cell? _ _ hx321_0; first | rwa [add_block] at this | exact this) GW320.out); have hn321_3 : ad318.block ≠ gb320 := Nat.ne_of_lt (Nat.lt_of_lt_of_le (by have := World.block_lt_of_cell? _ _ hx321_0; first | rwa [add_block] at this | exact this) GW320.out); have hn321_4 : ad318.block ≠ gb320 := Nat.ne_of_lt (Nat.lt_of_lt_of_le (by have := World.block_lt_of_cell? _ _ hx321_0; first | rwa [add_block] at this | exact this) GW320.out); replace hx321_0 := cel HB hx321_0; replace hx321_0 := (cell_far (p := ⟨gb320, 0, none⟩) (by first | (rw [add_block]; exact hn321_0) | (show (Addr.add _ _).block ≠ _; rw [add_block]; exact hn321_0) | exact hn321_0) (.string ((rd_T61 l1 (ji8)).f0))).trans hx321_0; replace hx321_0 := (cell_far (p := ⟨gb320, 1, none⟩) (by first | (rw [add_block]; exact hn321_1) | (show (Addr.add _ _).block ≠ _; rw [add_block]; exact hn321_1) | exact hn321_1) (.int .i64 ((rd_T61 l1 (ji8)).f1))).trans hx321_0; replace hx321_0 := (cell_far (p := ⟨gb320, 2, none⟩) (by first | (rw [add_block]; exact hn321_2) | (show (Addr.add _ _).block ≠ _; rw [add_block]; exact hn321_2) | exact hn321_2) (.int .i64 ((rd_T61 l1 (ji8)).f2))).trans hx321_0; replace hx321_0 := (cell_far (p := ⟨gb320, 3, none⟩) (by first | (rw [add_block]; exact hn321_3) | (show (Addr.add _ _).block ≠ _; rw [add_block]; exact hn321_3) | exact hn321_3) (.int .i64 ((rd_T61 l1 (ji8)).f3))).trans hx321_0; replace hx321_0 := (cell_far (p := ⟨gb320, 4, none⟩) (by first | (rw [add_block]; exact hn321_4) | (show (Addr.add _ _).block ≠ _; rw [add_block]; exact hn321_4) | exact hn321_4) (.int .i64 ((rd_T61 l1 (ji8)).f4))).trans hx321_0; clear hn321_0; clear hn321_1; clear hn321_2; clear hn321_3; clear hn321_4; replace p321 := eq_true p321; replace q321 := eq_true q321; have p322 : 0 ≤ ((ji15) : Int) := oda; have q322 : (ji15) < (l1.length : Int) := oda; obtain ⟨ad322, e322, hx322_0, hx322_1, hx322_2, hx322_3, hx322_4⟩ := at_T61 HR1.out (ji15) p322 q322; obtain rfl : ad319 = ad322 := (by injection e322); have hn322_0 : ad319.block ≠ gb320 := Nat.ne_of_lt (Nat.lt_of_lt_of_le (by have := World.block_lt_of_cell? _ _ hx322_0; first | rwa [add_block] at this | exact this) GW320.out); have hn322_1 : ad319.block ≠ gb320 := Nat.ne_of_lt (Nat.lt_of_lt_of_le (by have := World.block_lt_of_cell? _ _ hx322_0; first | rwa [add_block] at this | exact this) GW320.out); have hn322_2 : ad319.block ≠ gb320 := Nat.ne_of_lt (Nat.lt_of_lt_of_le (by have := World.block_lt_of_cell? _ _ hx322_0; first | rwa [add_block] at this | exact this) GW320.out); have hn322_3 : ad319.block ≠ gb320 := Nat.ne_of_lt (Nat.lt_of_lt_of_le (by have := World.block_lt_of_cell? _ _ hx322_0; first | rwa [add_block] at this | exact this) GW320.out); have hn322_4 : ad319.block ≠ gb320 := Nat.ne_of_lt (Nat.lt_of_lt_of_le (by have := World.block_lt_of_cell? _ _ hx322_0; first | rwa [add_block] at this | exact this) GW320.out); replace hx322_0 := cel HB hx322_0; replace hx322_1 := cel HB hx322_1; replace hx322_2 := cel HB hx322_2; replace hx322_3 := cel HB hx322_3; replace hx322_4 := cel HB hx322_4; replace hx322_0 := (cell_far (p := ⟨gb320, 0, none⟩) (by first | (rw [add_block]; exact hn322_0) | (show (Addr.add _ _).block ≠ _; rw [add_block]; exact hn322_0) | exact hn322_0) (.string ((rd_T61 l1 (ji8)).f0))).trans hx322_0; replace hx322_1 := (cell_far (p := ⟨gb320, 0, none⟩) (by first | (rw [add_block]; exact hn322_0) | (show (Addr.add _ _).block ≠ _; rw [add_block]; exact hn322_0) | exact hn322_0) (.string ((rd_T61 l1 (ji8)).f0))).trans hx322_1; replace hx322_2 := (cell_far (p := ⟨gb320, 0, none⟩) (by first | (rw [add_block]; exact hn322_0) | (show (Addr.add _ _).block ≠ _; rw [add_block]; exact hn322_0) | exact hn322_0) (.string ((rd_T61 l1 (ji8)).f0))).trans hx322_2; replace hx322_3 := (cell_far (p := ⟨gb320, 0, none⟩) (by first | (rw [add_block]; exact hn322_0) | (show (Addr.add _ _).block ≠ _; rw [add_block]; exact hn322_0) | exact hn322_0) (.string ((rd_T61 l1 (ji8)).f0))).trans hx322_3; replace hx322_4 := (cell_far (p := ⟨gb320, 0, none⟩) (by first | (rw [add_block]; exact hn322_0) | (show (Addr.add _ _).block ≠ _; rw [add_block]; exact hn322_0) | exact hn322_0) (.string ((rd_T61 l1 (ji8)).f0))).trans hx322_4; replace hx322_0 := (cell_far (p := ⟨gb320, 1, none⟩) (by first | (rw [add_block]; exact hn322_1) | (show (Addr.add _ _).block ≠ _; rw [add_block]; exact hn322_1) | exact hn322_1) (.int .i64 ((rd_T61 l1 (ji8)).f1))).trans hx322_0; replace hx322_1 := (cell_far (p := ⟨gb320, 1, none⟩) (by first | (rw [add_block]; exact hn322_1) | (show (Addr.add _ _).block ≠ _; rw [add_block]; exact hn322_1) | exact hn322_1) (.int .i64 ((rd_T61 l1 (ji8)).f1))).trans hx322_1; replace hx322_2 := (cell_far (p := ⟨gb320, 1, none⟩) (by first | (rw [add_block]; exact hn322_1) | (show (Addr.add _ _).block ≠ _; rw [add_block]; exact hn322_1) | exact hn322_1) (.int .i64 ((rd_T61 l1 (ji8)).f1))).trans hx322_2; replace hx322_3 := (cell_far (p := ⟨gb320, 1, none⟩) (by first | (rw [add_block]; exact hn322_1) | (show (Addr.add _ _).block ≠ _; rw [add_block]; exact hn322_1) | exact hn322_1) (.int .i64 ((rd_T61 l1 (ji8)).f1))).trans hx322_3; replace hx322_4 := (cell_far (p := ⟨gb320, 1, none⟩) (by first | (rw [add_block]; exact hn322_1) | (show (Addr.add _ _).block ≠ _; rw [add_block]; exact hn322_1) | exact hn322_1) (.int .i64 ((rd_T61 l1 (ji8)).f1))).trans hx322_4; replace hx322_0 := (cell_far (p := ⟨gb320, 2, none⟩) (by first | (rw [add_block]; exact hn322_2) | (show (Addr.add _ _).block ≠ _; rw [add_block]; exact hn322_2) | exact hn322_2) (.int .i64 ((rd_T61 l1 (ji8)).f2))).trans hx322_0; replace hx322_1 := (cell_far (p := ⟨gb320, 2, none⟩) (by first | (rw [add_block]; exact hn322_2) | (show (Addr.add _ _).block ≠ _; rw [add_block]; exact hn322_2) | exact hn322_2) (.int .i64 ((rd_T61 l1 (ji8)).f2))).trans hx322_1; replace hx322_2 := (cell_far (p := ⟨gb320, 2, none⟩) (by first | (rw [add_block]; exact hn322_2) | (show (Addr.add _ _).block ≠ _; rw [add_block]; exact hn322_2) | exact hn322_2) (.int .i64 ((rd_T61 l1 (ji8)).f2))).trans hx322_2; replace hx322_3 := (cell_far (p := ⟨gb320, 2, none⟩) (by first | (rw [add_block]; exact hn322_2) | (show (Addr.add _ _).block ≠ _; rw [add_block]; exact hn322_2) | exact hn322_2) (.int .i64 ((rd_T61 l1 (ji8)).f2))).trans hx322_3; replace hx322_4 := (cell_far (p := ⟨gb320, 2, none⟩) (by first | (rw [add_block]; exact hn322_2) | (show (Addr.add _ _).block ≠ _; rw [add_block]; exact hn322_2) | exact hn322_2) (.int .i64 ((rd_T61 l1 (ji8)).f2))).trans hx322_4; replace hx322_0 := (cell_far (p := ⟨gb320, 3, none⟩) (by first | (rw [add_block]; exact hn322_3) | (show (Addr.add _ _).block ≠ _; rw [add_block]; exact hn322_3) | exact hn322_3) (.int .i64 ((rd_T61 l1 (ji8)).f3))).trans hx322_0; replace hx322_1 := (cell_far (p := ⟨gb320, 3, none⟩) (by first | (rw [add_block]; exact hn322_3) | (show (Addr.add _ _).block ≠ _; rw [add_block]; exact hn322_3) | exact hn322_3) (.int .i64 ((rd_T61 l1 (ji8)).f3))).trans hx322_1; replace hx322_2 := (cell_far (p := ⟨gb320, 3, none⟩) (by first | (rw [add_block]; exact hn322_3) | (show (Addr.add _ _).block ≠ _; rw [add_block]; exact hn322_3) | exact hn322_3) (.int .i64 ((rd_T61 l1 (ji8)).f3))).trans hx322_2; replace hx322_3 := (cell_far (p := ⟨gb320, 3, none⟩) (by first | (rw [add_block]; exact hn322_3) | (show (Addr.add _ _).block ≠ _; rw [add_block]; exact hn322_3) | exact hn322_3) (.int .i64 ((rd_T61 l1 (ji8)).f3))).trans hx322_3; replace hx322_4 := (cell_far (p := ⟨gb320, 3, none⟩) (by first | (rw [add_block]; exact hn322_3) | (show (Addr.add _ _).block ≠ _; rw [add_block]; exact hn322_3) | exact hn322_3) (.int .i64 ((rd_T61 l1 (ji8)).f3))).trans hx322_4; replace hx322_0 := (cell_far (p := ⟨gb320, 4, none⟩) (by first | (rw [add_block]; exact hn322_4) | (show (Addr.add _ _).block ≠ _; rw [add_block]; exact hn322_4) | exact hn322_4) (.int .i64 ((rd_T61 l1 (ji8)).f4))).trans hx322_0; replace hx322_1 := (cell_far (p := ⟨gb320, 4, none⟩) (by first | (rw [add_block]; exact hn322_4) | (show (Addr.add _ _).block ≠ _; rw [add_block]; exact hn322_4) | exact hn322_4) (.int .i64 ((rd_T61 l1 (ji8)).f4))).trans hx322_1; replace hx322_2 := (cell_far (p := ⟨gb320, 4, none⟩) (by first | (rw [add_block]; exact hn322_4) | (show (Addr.add _ _).block ≠ _; rw [add_block]; exact hn322_4) | exact hn322_4) (.int .i64 ((rd_T61 l1 (ji8)).f4))).trans hx322_2; replace hx322_3 := (cell_far (p := ⟨gb320, 4, none⟩) (by first | (rw [add_block]; exact hn322_4) | (show (Addr.add _ _).block ≠ _; rw [add_block]; exact hn322_4) | exact hn322_4) (.int .i64 ((rd_T61 l1 (ji8)).f4))).trans hx322_3; replace hx322_4 := (cell_far (p := ⟨gb320, 4, none⟩) (by first | (rw [add_block]; exact hn322_4) | (show (Addr.add _ _).block ≠ _; rw [add_block]; exact hn322_4) | exact hn322_4) (.int .i64 ((rd_T61 l1 (ji8)).f4))).trans hx322_4; clear hn322_0; clear hn322_1; clear hn322_2; clear hn322_3; clear hn322_4; replace p322 := eq_true p322; replace q322 := eq_true q322) | ((with_reducible refine gate_dst (N := 13) rfl ?_); refine box_event ?hg (N := 13) ?hd (cs := #[.string (⟨#[]⟩ : ByteArray), .int .i64 0, .int .i64 0, .int .i64 0, .int .i64 0]) (t := 61) ?hr ?_; (case hd => rfl); (case hg => rfl); (case hr => first | (go_simp; done) | (go_simp; rfl)); intro gb323 hg w23 hbox hb; have n0_ := Aside0.mk (Kd.R_below (by (with_reducible repeat (first | apply Kd.R_alloc | apply Kd.R_drewN | apply Kd.R_drew)); exact (Kd.R_mono (Kd.R_far (p := ⟨gb320, 4, none⟩) (Kd.R_far (p := ⟨gb320, 3, none⟩) (Kd.R_far (p := ⟨gb320, 2, none⟩) (Kd.R_far (p := ⟨gb320, 1, none⟩) (Kd.R_far (p := ⟨gb320, 0, none⟩) (Kd.R_types HO317.out BK320.out (by decide)) (fun _ hk => hk.2) (.string ((rd_T61 l1 (ji8)).f0))) (fun _ hk => hk.2) (.int .i64 ((rd_T61 l1 (ji8)).f1))) (fun _ hk => hk.2) (.int .i64 ((rd_T61 l1 (ji8)).f2))) (fun _ hk => hk.2) (.int .i64 ((rd_T61 l1 (ji8)).f3))) (fun _ hk => hk.2) (.int .i64 ((rd_T61 l1 (ji8)).f4))) (fun _ h_ => h_.1))) hb); have n1_ := Aside0.mk (blk_below (g := gb320) (o := .cells #[.string ((rd_T61 l1 (ji8)).f0), .int .i64 ((rd_T61 l1 (ji8)).f1), .int .i64 ((rd_T61 l1 (ji8)).f2), .int .i64 ((rd_T61 l1 (ji8)).f3), .int .i64 ((rd_T61 l1 (ji8)).f4)] 61 (0, 0)) (by (with_reducible repeat (first | refine blk_drewN ?_ _ | refine blk_drew ?_ | refine blk_alloc ?_ _)); refine blk_put (cs := #[.string ((rd_T61 l1 (ji8)).f0), .int .i64 ((rd_T61 l1 (ji8)).f1), .int .i64 ((rd_T61 l1 (ji8)).f2), .int .i64 ((rd_T61 l1 (ji8)).f3), .int .i64 0]) ?_ 4 _ rfl; (with_reducible repeat (first | refine blk_drewN ?_ _ | refine blk_drew ?_ | refine blk_alloc ?_ _)); refine blk_put (cs := #[.string ((rd_T61 l1 (ji8)).f0), .int .i64 ((rd_T61 l1 (ji8)).f1), .int .i64 ((rd_T61 l1 (ji8)).f2), .int .i64 0, .int .i64 0]) ?_ 3 _ rfl; (with_reducible repeat (first | refine blk_drewN ?_ _ | refine blk_drew ?_ | refine blk_alloc ?_ _)); refine blk_put (cs := #[.string ((rd_T61 l1 (ji8)).f0), .int .i64 ((rd_T61 l1 (ji8)).f1), .int .i64 0, .int .i64 0, .int .i64 0]) ?_ 2 _ rfl; (with_reducible repeat (first | refine blk_drewN ?_ _ | refine blk_drew ?_ | refine blk_alloc ?_ _)); refine blk_put (cs := #[.string ((rd_T61 l1 (ji8)).f0), .int .i64 0, .int .i64 0, .int .i64 0, .int .i64 0]) ?_ 1 _ rfl; (with_reducible repeat (first | refine blk_drewN ?_ _ | refine blk_drew ?_ | refine blk_alloc ?_ _)); refine blk_put (cs := #[.string (⟨#[]⟩ : ByteArray), .int .i64 0, .int .i64 0, .int .i64 0, .int .i64 0]) ?_ 0 _ rfl; (with_reducible repeat (first | refine blk_drewN ?_ _ | refine blk_drew ?_ | refine blk_alloc ?_ _)); exact BK320.out) hb); have n2_ := Aside0.mk (below_step (bel1 HB GE320) hb); have n3_ := Aside0.mk (hbox); have n4_ := Aside0.mk ((by rw [hg]; exact (below_size (bel1 HB GE320)) : w.heap.size ≤ gb323)); have n5_ := Aside0.mk ((by rw [hg]; exact (below_size (bel1 HB GE320)) : w.heap.size ≤ gb323)); have n6_ := Aside0.mk ((by rw [hg]; exact Nat.ne_of_lt (blk_lt (g := gb320) (o := .cells #[.string ((rd_T61 l1 (ji8)).f0), .int .i64 ((rd_T61 l1 (ji8)).f1), .int .i64 ((rd_T61 l1 (ji8)).f2), .int .i64 ((rd_T61 l1 (ji8)).f3), .int .i64 ((rd_T61 l1 (ji8)).f4)] 61 (0, 0)) (by (with_reducible repeat (first | refine blk_drewN ?_ _ | refine blk_drew ?_ | refine blk_alloc ?_ _)); refine blk_put (cs := #[.string ((rd_T61 l1 (ji8)).f0), .int .i64 ((rd_T61 l1 (ji8)).f1), .int .i64 ((rd_T61 l1 (ji8)).f2), .int .i64 ((rd_T61 l1 (ji8)).f3), .int .i64 0]) ?_ 4 _ rfl; (with_reducible repeat (first | refine blk_drewN ?_ _ | refine blk_drew ?_ | refine blk_alloc ?_ _)); refine blk_put (cs := #[.string ((rd_T61 l1 (ji8)).f0), .int .i64 ((rd_T61 l1 (ji8)).f1), .int .i64 ((rd_T61 l1 (ji8)).f2), .int .i64 0, .int .i64 0]) ?_ 3 _ rfl; (with_reducible repeat (first | refine blk_drewN ?_ _ | refine blk_drew ?_ | refine blk_alloc ?_ _)); refine blk_put (cs := #[.string ((rd_T61 l1 (ji8)).f0), .int .i64 ((rd_T61 l1 (ji8)).f1), .int .i64 0, .int .i64 0, .int .i64 0]) ?_ 2 _ rfl; (with_reducible repeat (first | refine blk_drewN ?_ _ | refine blk_drew ?_ | refine blk_alloc ?_ _)); refine blk_put (cs := #[.string ((rd_T61 l1 (ji8)).f0), .int .i64 0, .int .i64 0, .int .i64 0, .int .i64 0]) ?_ 1 _ rfl; (with_reducible repeat (first | refine blk_drewN ?_ _ | refine blk_drew ?_ | refine blk_alloc ?_ _)); refine blk_put (cs := #[.string (⟨#[]⟩ : ByteArray), .int .i64 0, .int .i64 0, .int .i64 0, .int .i64 0]) ?_ 0 _ rfl; (with_reducible repeat (first | refine blk_drewN ?_ _ | refine blk_drew ?_ | refine blk_alloc ?_ _)); exact BK320.out)) : gb320 ≠ gb323)); have n7_ := Aside0.mk ((by rw [hg]; exact Nat.ne_of_gt (blk_lt (g := gb320) (o := .cells #[.string ((rd_T61 l1 (ji8)).f0), .int .i64 ((rd_T61 l1 (ji8)).f1), .int .i64 ((rd_T61 l1 (ji8)).f2), .int .i64 ((rd_T61 l1 (ji8)).f3), .int .i64 ((rd_T61 l1 (ji8)).f4)] 61 (0, 0)) (by (with_reducible repeat (first | refine blk_drewN ?_ _ | refine blk_drew ?_ | refine blk_alloc ?_ _)); refine blk_put (cs := #[.string ((rd_T61 l1 (ji8)).f0), .int .i64 ((rd_T61 l1 (ji8)).f1), .int .i64 ((rd_T61 l1 (ji8)).f2), .int .i64 ((rd_T61 l1 (ji8)).f3), .int .i64 0]) ?_ 4 _ rfl; (with_reducible repeat (first | refine blk_drewN ?_ _ | refine blk_drew ?_ | refine blk_alloc ?_ _)); refine blk_put (cs := #[.string ((rd_T61 l1 (ji8)).f0), .int .i64 ((rd_T61 l1 (ji8)).f1), .int .i64 ((rd_T61 l1 (ji8)).f2), .int .i64 0, .int .i64 0]) ?_ 3 _ rfl; (with_reducible repeat (first | refine blk_drewN ?_ _ | refine blk_drew ?_ | refine blk_alloc ?_ _)); refine blk_put (cs := #[.string ((rd_T61 l1 (ji8)).f0), .int .i64 ((rd_T61 l1 (ji8)).f1), .int .i64 0, .int .i64 0, .int .i64 0]) ?_ 2 _ rfl; (with_reducible repeat (first | refine blk_drewN ?_ _ | refine blk_drew ?_ | refine blk_alloc ?_ _)); refine blk_put (cs := #[.string ((rd_T61 l1 (ji8)).f0), .int .i64 0, .int .i64 0, .int .i64 0, .int .i64 0]) ?_ 1 _ rfl; (with_reducible repeat (first | refine blk_drewN ?_ _ | refine blk_drew ?_ | refine blk_alloc ?_ _)); refine blk_put (cs := #[.string (⟨#[]⟩ : ByteArray), .int .i64 0, .int .i64 0, .int .i64 0, .int .i64 0]) ?_ 0 _ rfl; (with_reducible repeat (first | refine blk_drewN ?_ _ | refine blk_drew ?_ | refine blk_alloc ?_ _)); exact BK320.out)) : gb323 ≠ gb320)); clear HO317; clear BK320; clear HB; have HO317 := n0_; have BK320 := n1_; have HB := n2_; have BK323 := n3_; have GW323 := n4_; have GE323 := n5_; have NB320_323 := n6_; have NB323_320 := n7_; clear n0_ n1_ n2_ n3_ n4_ n5_ n6_ n7_; clear hb hbox hg; have hnb24 := NB323_320.out; have hnc24 := NB320_323.out; have hcz25_0 : w23.cell? ⟨gb323, 0, none⟩ = some (.string (⟨#[]⟩ : ByteArray)) := (blk_cell BK323.out 0).trans rfl; have hcz25_1 : w23.cell? ⟨gb323, 1, none⟩ = some (.int .i64 0) := (blk_cell BK323.out 1).trans rfl; have hcz25_2 : w23.cell? ⟨gb323, 2, none⟩ = some (.int .i64 0) := (blk_cell BK323.out 2).trans rfl; have hcz25_3 : w23.cell? ⟨gb323, 3, none⟩ = some (.int .i64 0) := (blk_cell BK323.out 3).trans rfl; have hcz25_4 : w23.cell? ⟨gb323, 4, none⟩ = some (.int .i64 0) := (blk_cell BK323.out 4).trans rfl; have hfz25_0 := blk_frozen BK323.out 0; have hfz25_1 := blk_frozen BK323.out 1; have hfz25_2 := blk_frozen BK323.out 2; have hfz25_3 := blk_frozen BK323.out 3; have hfz25_4 := blk_frozen BK323.out 4; have hcz26_0 : w23.cell? ⟨gb320, 0, none⟩ = some (.string ((rd_T61 l1 (ji8)).f0)) := (blk_cell BK320.out 0).trans rfl; have hcz26_1 : w23.cell? ⟨gb320, 1, none⟩ = some (.int .i64 ((rd_T61 l1 (ji8)).f1)) := (blk_cell BK320.out 1).trans rfl; have hcz26_2 : w23.cell? ⟨gb320, 2, none⟩ = some (.int .i64 ((rd_T61 l1 (ji8)).f2)) := (blk_cell BK320.out 2).trans rfl; have hcz26_3 : w23.cell? ⟨gb320, 3, none⟩ = some (.int .i64 ((rd_T61 l1 (ji8)).f3)) := (blk_cell BK320.out 3).trans rfl; have hcz26_4 : w23.cell? ⟨gb320, 4, none⟩ = some (.int .i64 ((rd_T61 l1 (ji8)).f4)) := (blk_cell BK320.out 4).trans rfl; have hfz26_0 := blk_frozen BK320.out 0; have hfz26_1 := blk_frozen BK320.out 1; have hfz26_2 := blk_frozen BK320.out 2; have hfz26_3 := blk_frozen BK320.out 3; have hfz26_4 := blk_frozen BK320.out 4))
          (try simp only [Act.put, List.setIfInBounds_toArray, List.set_cons_zero, List.set_cons_succ])
          go_cut [11] (fun v11 wc => ∃ (kq : Nat) (x11_17 : List Int), Aside0 (impl_brokenRules.j0 kq a2 a3 x11_17 ((rd_T61 l1 (ji8)).f0) ((rd_T61 l1 (ji8)).f1) ((rd_T61 l1 (ji8)).f2) ((rd_T61 l1 (ji8)).f3) ((rd_T61 l1 (ji8)).f4) ((rd_T61 l1 (ji15)).f0) ((rd_T61 l1 (ji15)).f1) ((rd_T61 l1 (ji15)).f2) ((rd_T61 l1 (ji15)).f3) ((rd_T61 l1 (ji15)).f4) = some r) ∧ Aside0 (kq ≤ k) ∧ Aside0 (Kd.R (Kd.int .i64) 3 wc w.heap.size (fun _ => True) v11 x11_17) ∧ Aside0 (wc.heap[gb320]? = some (.cells #[.string ((rd_T61 l1 (ji8)).f0), .int .i64 ((rd_T61 l1 (ji8)).f1), .int .i64 ((rd_T61 l1 (ji8)).f2), .int .i64 ((rd_T61 l1 (ji8)).f3), .int .i64 ((rd_T61 l1 (ji8)).f4)] 61 (0, 0))) ∧ Aside0 (wc.heap[gb323]? = some (.cells #[.string ((rd_T61 l1 (ji15)).f0), .int .i64 ((rd_T61 l1 (ji15)).f1), .int .i64 ((rd_T61 l1 (ji15)).f2), .int .i64 ((rd_T61 l1 (ji15)).f3), .int .i64 ((rd_T61 l1 (ji15)).f4)] 61 (0, 0))) ∧ Aside0 (Below w.heap.size w wc))
          case first =>
           have H := HC18.out
           clear HC18
           by_cases c27 : ((rd_T61 l1 (ji8)).f2) > ((rd_T61 l1 (ji15)).f2)
           ·rw [if_pos c27] at H
            have c27b0 : decide (((rd_T61 l1 (ji15)).f2) < ((rd_T61 l1 (ji8)).f2)) = true := decide_eq_true c27
            clear c27
            (first | rw [c27b0] | (simp only [i64_w, i32_w]; rw [c27b0]) | skip)
            by_cases c28 : y315.length < 17592186044416
            ·rw [if_pos c28] at H
             have LMc28 := Aside0.mk c28
             clear c28
             obtain ⟨y324, hy324⟩ : ∃ y_ : List Int, y_ = (y315 ++ [1]) := ⟨_, rfl⟩
             replace H : (impl_brokenRules.j0 k a2 a3 y324 ((rd_T61 l1 (ji8)).f0) ((rd_T61 l1 (ji8)).f1) ((rd_T61 l1 (ji8)).f2) ((rd_T61 l1 (ji8)).f3) ((rd_T61 l1 (ji8)).f4) ((rd_T61 l1 (ji15)).f0) ((rd_T61 l1 (ji15)).f1) ((rd_T61 l1 (ji15)).f2) ((rd_T61 l1 (ji15)).f3) ((rd_T61 l1 (ji15)).f4)) = some r := by first | (rw [hy324]; with_reducible exact H) | (have H2_ := (Option.bind_some _ _).symm.trans H; rw [hy324]; with_reducible exact H2_) | (have H2_ := (Option.bind_some _ _).symm.trans H; with_reducible exact H2_) | with_reducible exact H | (rw [hy324]; exact H) | exact H
             have Ny324 := Aside0.mk hy324
             clear hy324
             have H' := Aside0.mk H
             clear H
             go_wp2_with (first | ((with_reducible refine gate_builtin (b := .append) (xs := #[.tmp 39, .tmp 40]) rfl ?_); at_builtin; refine Kd.R_append (Kd.int .i64) (w0 := w) w.heap.size rfl (.tmp 39) (.tmp 40) 28 3 (.int .i64 0) 8 rfl Try.underlying28 info3 rfl (by decide) (by omega) v316 y315 1 [.int .i64 1] (fun _ => True) (fun _ => False) rfl (by first | (go_simp; done) | (go_simp; rfl)) ?aP (fun _ hk => hk.elim) ?aF ?aO ?aB ?aS ?aL ?_; (case aP => exact rfl); (case aB => exact (bel2 HB GE320 GE323)); (case aF => exact (fun _ _ => trivial)); (case aO => exact (by (with_reducible repeat (first | apply Kd.R_alloc | apply Kd.R_drewN | apply Kd.R_drew)); exact Kd.R_mono (Kd.R_far (p := ⟨gb323, 4, none⟩) (Kd.R_far (p := ⟨gb323, 3, none⟩) (Kd.R_far (p := ⟨gb323, 2, none⟩) (Kd.R_far (p := ⟨gb323, 1, none⟩) (Kd.R_far (p := ⟨gb323, 0, none⟩) (Kd.R_types HO317.out BK323.out (by decide)) (fun _ hk => hk.2) (.string ((rd_T61 l1 (ji15)).f0))) (fun _ hk => hk.2) (.int .i64 ((rd_T61 l1 (ji15)).f1))) (fun _ hk => hk.2) (.int .i64 ((rd_T61 l1 (ji15)).f2))) (fun _ hk => hk.2) (.int .i64 ((rd_T61 l1 (ji15)).f3))) (fun _ hk => hk.2) (.int .i64 ((rd_T61 l1 (ji15)).f4))) (fun _ hk => trivial))); (case aS => exact (below_size (bel2 HB GE320 GE323))); (case aL => have := LMc28.out; omega); intro v325 w29 ho hb hg hat; rw [← Ny324.out] at ho; have n0_ := Aside0.mk (blk_grown (g := gb320) (o := .cells #[.string ((rd_T61 l1 (ji8)).f0), .int .i64 ((rd_T61 l1 (ji8)).f1), .int .i64 ((rd_T61 l1 (ji8)).f2), .int .i64 ((rd_T61 l1 (ji8)).f3), .int .i64 ((rd_T61 l1 (ji8)).f4)] 61 (0, 0)) (by (with_reducible repeat (first | refine blk_drewN ?_ _ | refine blk_drew ?_ | refine blk_alloc ?_ _)); refine blk_far ?_ NB320_323.out _; (with_reducible repeat (first | refine blk_drewN ?_ _ | refine blk_drew ?_ | refine blk_alloc ?_ _)); refine blk_far ?_ NB320_323.out _; (with_reducible repeat (first | refine blk_drewN ?_ _ | refine blk_drew ?_ | refine blk_alloc ?_ _)); refine blk_far ?_ NB320_323.out _; (with_reducible repeat (first | refine blk_drewN ?_ _ | refine blk_drew ?_ | refine blk_alloc ?_ _)); refine blk_far ?_ NB320_323.out _; (with_reducible repeat (first | refine blk_drewN ?_ _ | refine blk_drew ?_ | refine blk_alloc ?_ _)); refine blk_far ?_ NB320_323.out _; (with_reducible repeat (first | refine blk_drewN ?_ _ | refine blk_drew ?_ | refine blk_alloc ?_ _)); exact BK320.out) hg (Kd.R_ne HO317.out BK320.out (by decide))); have n1_ := Aside0.mk (blk_grown (g := gb323) (o := .cells #[.string ((rd_T61 l1 (ji15)).f0), .int .i64 ((rd_T61 l1 (ji15)).f1), .int .i64 ((rd_T61 l1 (ji15)).f2), .int .i64 ((rd_T61 l1 (ji15)).f3), .int .i64 ((rd_T61 l1 (ji15)).f4)] 61 (0, 0)) (by (with_reducible repeat (first | refine blk_drewN ?_ _ | refine blk_drew ?_ | refine blk_alloc ?_ _)); refine blk_put (cs := #[.string ((rd_T61 l1 (ji15)).f0), .int .i64 ((rd_T61 l1 (ji15)).f1), .int .i64 ((rd_T61 l1 (ji15)).f2), .int .i64 ((rd_T61 l1 (ji15)).f3), .int .i64 0]) ?_ 4 _ rfl; (with_reducible repeat (first | refine blk_drewN ?_ _ | refine blk_drew ?_ | refine blk_alloc ?_ _)); refine blk_put (cs := #[.string ((rd_T61 l1 (ji15)).f0), .int .i64 ((rd_T61 l1 (ji15)).f1), .int .i64 ((rd_T61 l1 (ji15)).f2), .int .i64 0, .int .i64 0]) ?_ 3 _ rfl; (with_reducible repeat (first | refine blk_drewN ?_ _ | refine blk_drew ?_ | refine blk_alloc ?_ _)); refine blk_put (cs := #[.string ((rd_T61 l1 (ji15)).f0), .int .i64 ((rd_T61 l1 (ji15)).f1), .int .i64 0, .int .i64 0, .int .i64 0]) ?_ 2 _ rfl; (with_reducible repeat (first | refine blk_drewN ?_ _ | refine blk_drew ?_ | refine blk_alloc ?_ _)); refine blk_put (cs := #[.string ((rd_T61 l1 (ji15)).f0), .int .i64 0, .int .i64 0, .int .i64 0, .int .i64 0]) ?_ 1 _ rfl; (with_reducible repeat (first | refine blk_drewN ?_ _ | refine blk_drew ?_ | refine blk_alloc ?_ _)); refine blk_put (cs := #[.string (⟨#[]⟩ : ByteArray), .int .i64 0, .int .i64 0, .int .i64 0, .int .i64 0]) ?_ 0 _ rfl; (with_reducible repeat (first | refine blk_drewN ?_ _ | refine blk_drew ?_ | refine blk_alloc ?_ _)); exact BK323.out) hg (Kd.R_ne HO317.out BK323.out (by decide))); have n2_ := Aside0.mk (hb); have n3_ := Aside0.mk (ho); clear BK320; clear BK323; clear HB; clear HO317; have BK320 := n0_; have BK323 := n1_; have HB := n2_; have HO326 := n3_; clear n0_ n1_ n2_ n3_; clear ho hb hg hat))
             go_meet
             case rel => exact ⟨_, (y324), H', ⟨by first | omega | exact Nat.le_refl _⟩, ⟨rdl HO326⟩, ⟨bkl BK320⟩, ⟨bkl BK323⟩, ⟨bel2 HB GE320 GE323⟩⟩
            ·rw [if_neg c28] at H
             exact absurd H (by simp)
           ·rw [if_neg c27] at H
            have c27b0 : decide (((rd_T61 l1 (ji15)).f2) < ((rd_T61 l1 (ji8)).f2)) = false := decide_eq_false c27
            clear c27
            (first | rw [c27b0] | (simp only [i64_w, i32_w]; rw [c27b0]) | skip)
            have H' := Aside0.mk H
            clear H
            go_wp2
            go_meet
            case rel => exact ⟨_, (y315), H', ⟨by first | omega | exact Nat.le_refl _⟩, ⟨by (with_reducible repeat (first | apply Kd.R_alloc | apply Kd.R_drewN | apply Kd.R_drew)); exact Kd.R_mono (Kd.R_far (p := ⟨gb323, 4, none⟩) (Kd.R_far (p := ⟨gb323, 3, none⟩) (Kd.R_far (p := ⟨gb323, 2, none⟩) (Kd.R_far (p := ⟨gb323, 1, none⟩) (Kd.R_far (p := ⟨gb323, 0, none⟩) (Kd.R_types HO317.out BK323.out (by decide)) (fun _ hk => hk.2) (.string ((rd_T61 l1 (ji15)).f0))) (fun _ hk => hk.2) (.int .i64 ((rd_T61 l1 (ji15)).f1))) (fun _ hk => hk.2) (.int .i64 ((rd_T61 l1 (ji15)).f2))) (fun _ hk => hk.2) (.int .i64 ((rd_T61 l1 (ji15)).f3))) (fun _ hk => hk.2) (.int .i64 ((rd_T61 l1 (ji15)).f4))) (fun _ hk => trivial)⟩, ⟨by (with_reducible repeat (first | refine blk_drewN ?_ _ | refine blk_drew ?_ | refine blk_alloc ?_ _)); refine blk_far ?_ NB320_323.out _; (with_reducible repeat (first | refine blk_drewN ?_ _ | refine blk_drew ?_ | refine blk_alloc ?_ _)); refine blk_far ?_ NB320_323.out _; (with_reducible repeat (first | refine blk_drewN ?_ _ | refine blk_drew ?_ | refine blk_alloc ?_ _)); refine blk_far ?_ NB320_323.out _; (with_reducible repeat (first | refine blk_drewN ?_ _ | refine blk_drew ?_ | refine blk_alloc ?_ _)); refine blk_far ?_ NB320_323.out _; (with_reducible repeat (first | refine blk_drewN ?_ _ | refine blk_drew ?_ | refine blk_alloc ?_ _)); refine blk_far ?_ NB320_323.out _; (with_reducible repeat (first | refine blk_drewN ?_ _ | refine blk_drew ?_ | refine blk_alloc ?_ _)); exact BK320.out⟩, ⟨by (with_reducible repeat (first | refine blk_drewN ?_ _ | refine blk_drew ?_ | refine blk_alloc ?_ _)); refine blk_put (cs := #[.string ((rd_T61 l1 (ji15)).f0), .int .i64 ((rd_T61 l1 (ji15)).f1), .int .i64 ((rd_T61 l1 (ji15)).f2), .int .i64 ((rd_T61 l1 (ji15)).f3), .int .i64 0]) ?_ 4 _ rfl; (with_reducible repeat (first | refine blk_drewN ?_ _ | refine blk_drew ?_ | refine blk_alloc ?_ _)); refine blk_put (cs := #[.string ((rd_T61 l1 (ji15)).f0), .int .i64 ((rd_T61 l1 (ji15)).f1), .int .i64 ((rd_T61 l1 (ji15)).f2), .int .i64 0, .int .i64 0]) ?_ 3 _ rfl; (with_reducible repeat (first | refine blk_drewN ?_ _ | refine blk_drew ?_ | refine blk_alloc ?_ _)); refine blk_put (cs := #[.string ((rd_T61 l1 (ji15)).f0), .int .i64 ((rd_T61 l1 (ji15)).f1), .int .i64 0, .int .i64 0, .int .i64 0]) ?_ 2 _ rfl; (with_reducible repeat (first | refine blk_drewN ?_ _ | refine blk_drew ?_ | refine blk_alloc ?_ _)); refine blk_put (cs := #[.string ((rd_T61 l1 (ji15)).f0), .int .i64 0, .int .i64 0, .int .i64 0, .int .i64 0]) ?_ 1 _ rfl; (with_reducible repeat (first | refine blk_drewN ?_ _ | refine blk_drew ?_ | refine blk_alloc ?_ _)); refine blk_put (cs := #[.string (⟨#[]⟩ : ByteArray), .int .i64 0, .int .i64 0, .int .i64 0, .int .i64 0]) ?_ 0 _ rfl; (with_reducible repeat (first | refine blk_drewN ?_ _ | refine blk_drew ?_ | refine blk_alloc ?_ _)); exact BK323.out⟩, ⟨bel2 HB GE320 GE323⟩⟩
          case rest =>
           clear HC18
           try clear c1
           try clear c2
           try clear p2
           try clear p3
           try clear q3
           try clear hx3
           try clear c5
           try clear c6
           try clear c6b0
           try clear p6
           try clear c7
           try clear c7b0
           try clear c9
           try clear c9b0
           try clear c10
           try clear c10b0
           try clear c11
           try clear c11b0
           try clear c13
           try clear c13b0
           try clear c14
           try clear c14b0
           try clear c16
           try clear c16b0
           try clear c17
           try clear c17b0
           try clear c24
           try clear c27
           try clear c27b0
           try clear c28
           try clear hcz22_0
           try clear hcz22_1
           try clear hcz22_2
           try clear hcz22_3
           try clear hcz22_4
           try clear hcz25_0
           try clear hcz25_1
           try clear hcz25_2
           try clear hcz25_3
           try clear hcz25_4
           try clear hcz26_0
           try clear hcz26_1
           try clear hcz26_2
           try clear hcz26_3
           try clear hcz26_4
           try clear hfz22_0
           try clear hfz22_1
           try clear hfz22_2
           try clear hfz22_3
           try clear hfz22_4
           try clear hfz25_0
           try clear hfz25_1
           try clear hfz25_2
           try clear hfz25_3
           try clear hfz25_4
           try clear hfz26_0
           try clear hfz26_1
           try clear hfz26_2
           try clear hfz26_3
           try clear hfz26_4
           try clear hx318_0
           try clear hx319_0
           try clear hx319_1
           try clear hx319_2
           try clear hx319_3
           try clear hx319_4
           try clear hx321_0
           try clear hx322_0
           try clear hx322_1
           try clear hx322_2
           try clear hx322_3
           try clear hx322_4
           try clear p318
           try clear p319
           try clear p321
           try clear p322
           try clear q318
           try clear q319
           try clear q321
           try clear q322
           obtain ⟨kq, x11_17, HA, HJ17, HO_11, BK320, BK323, HB⟩ := hcut
           cases kq with
           | zero => exact absurd HA.out (by simp [impl_brokenRules.j0])
           | succ kj17 =>
            have H := HA.out
            clear HA
            simp only [impl_brokenRules.j0] at H
            have HC30 := Aside0.mk H
            clear H
            have hnb31 := NB320_323.out
            have hnc31 := NB323_320.out
            have hcz32_0 : wc.cell? ⟨gb320, 0, none⟩ = some (.string ((rd_T61 l1 (ji8)).f0)) := (blk_cell BK320.out 0).trans rfl
            have hcz32_1 : wc.cell? ⟨gb320, 1, none⟩ = some (.int .i64 ((rd_T61 l1 (ji8)).f1)) := (blk_cell BK320.out 1).trans rfl
            have hcz32_2 : wc.cell? ⟨gb320, 2, none⟩ = some (.int .i64 ((rd_T61 l1 (ji8)).f2)) := (blk_cell BK320.out 2).trans rfl
            have hcz32_3 : wc.cell? ⟨gb320, 3, none⟩ = some (.int .i64 ((rd_T61 l1 (ji8)).f3)) := (blk_cell BK320.out 3).trans rfl
            have hcz32_4 : wc.cell? ⟨gb320, 4, none⟩ = some (.int .i64 ((rd_T61 l1 (ji8)).f4)) := (blk_cell BK320.out 4).trans rfl
            have hfz32_0 := blk_frozen BK320.out 0
            have hfz32_1 := blk_frozen BK320.out 1
            have hfz32_2 := blk_frozen BK320.out 2
            have hfz32_3 := blk_frozen BK320.out 3
            have hfz32_4 := blk_frozen BK320.out 4
            have hcz33_0 : wc.cell? ⟨gb323, 0, none⟩ = some (.string ((rd_T61 l1 (ji15)).f0)) := (blk_cell BK323.out 0).trans rfl
            have hcz33_1 : wc.cell? ⟨gb323, 1, none⟩ = some (.int .i64 ((rd_T61 l1 (ji15)).f1)) := (blk_cell BK323.out 1).trans rfl
            have hcz33_2 : wc.cell? ⟨gb323, 2, none⟩ = some (.int .i64 ((rd_T61 l1 (ji15)).f2)) := (blk_cell BK323.out 2).trans rfl
            have hcz33_3 : wc.cell? ⟨gb323, 3, none⟩ = some (.int .i64 ((rd_T61 l1 (ji15)).f3)) := (blk_cell BK323.out 3).trans rfl
            have hcz33_4 : wc.cell? ⟨gb323, 4, none⟩ = some (.int .i64 ((rd_T61 l1 (ji15)).f4)) := (blk_cell BK323.out 4).trans rfl
            have hfz33_0 := blk_frozen BK323.out 0
            have hfz33_1 := blk_frozen BK323.out 1
            have hfz33_2 := blk_frozen BK323.out 2
            have hfz33_3 := blk_frozen BK323.out 3
            have hfz33_4 := blk_frozen BK323.out 4
            go_upto_if 46 with (fail)
            go_cut [11] (fun v11 wc => ∃ (kq : Nat) (x11_29 : List Int), Aside0 (impl_brokenRules.j1 kq a2 a3 x11_29 ((rd_T61 l1 (ji8)).f0) ((rd_T61 l1 (ji8)).f1) ((rd_T61 l1 (ji8)).f2) ((rd_T61 l1 (ji8)).f3) ((rd_T61 l1 (ji8)).f4) = some r) ∧ Aside0 (kq ≤ kj17) ∧ Aside0 (Kd.R (Kd.int .i64) 3 wc w.heap.size (fun _ => True) v11 x11_29) ∧ Aside0 (wc.heap[gb320]? = some (.cells #[.string ((rd_T61 l1 (ji8)).f0), .int .i64 ((rd_T61 l1 (ji8)).f1), .int .i64 ((rd_T61 l1 (ji8)).f2), .int .i64 ((rd_T61 l1 (ji8)).f3), .int .i64 ((rd_T61 l1 (ji8)).f4)] 61 (0, 0))) ∧ Aside0 (wc.heap[gb323]? = some (.cells #[.string ((rd_T61 l1 (ji15)).f0), .int .i64 ((rd_T61 l1 (ji15)).f1), .int .i64 ((rd_T61 l1 (ji15)).f2), .int .i64 ((rd_T61 l1 (ji15)).f3), .int .i64 ((rd_T61 l1 (ji15)).f4)] 61 (0, 0))) ∧ Aside0 (Below w.heap.size w wc))
            case first =>
             have H := HC30.out
             clear HC30
             by_cases c34 : ((rd_T61 l1 (ji8)).f1) = ((rd_T61 l1 (ji15)).f1)
             ·rw [if_pos c34] at H
              have c34b0 : (((rd_T61 l1 (ji8)).f1) == ((rd_T61 l1 (ji15)).f1)) = true := beq_iff_eq.mpr c34
              have c34b1 : (((rd_T61 l1 (ji8)).f1) != ((rd_T61 l1 (ji15)).f1)) = false := bne_eq_false_iff_eq.mpr c34
              clear c34
              (first | rw [c34b0] | (simp only [i64_w, i32_w]; rw [c34b0]) | skip)
              have H' := Aside0.mk H
              clear H
              go_wp2
              go_meet
              case rel => exact ⟨_, (x11_17), H', ⟨by have := HJ17.out; first | omega | exact Nat.le_refl _⟩, ⟨rdl HO_11⟩, ⟨bkl BK320⟩, ⟨bkl BK323⟩, ⟨bel2 HB GE320 GE323⟩⟩
             ·rw [if_neg c34] at H
              have c34b0 : (((rd_T61 l1 (ji8)).f1) == ((rd_T61 l1 (ji15)).f1)) = false := beq_eq_false_iff_ne.mpr c34
              have c34b1 : (((rd_T61 l1 (ji8)).f1) != ((rd_T61 l1 (ji15)).f1)) = true := bne_iff_ne.mpr c34
              (first | rw [c34b0] | (simp only [i64_w, i32_w]; rw [c34b0]) | skip)
              by_cases c35 : x11_17.length < 17592186044416
              ·rw [if_pos c35] at H
               have LMc35 := Aside0.mk c35
               clear c35
               obtain ⟨y327, hy327⟩ : ∃ y_ : List Int, y_ = (x11_17 ++ [2]) := ⟨_, rfl⟩
               replace H : (impl_brokenRules.j1 kj17 a2 a3 y327 ((rd_T61 l1 (ji8)).f0) ((rd_T61 l1 (ji8)).f1) ((rd_T61 l1 (ji8)).f2) ((rd_T61 l1 (ji8)).f3) ((rd_T61 l1 (ji8)).f4)) = some r := by first | (rw [hy327]; with_reducible exact H) | (have H2_ := (Option.bind_some _ _).symm.trans H; rw [hy327]; with_reducible exact H2_) | (have H2_ := (Option.bind_some _ _).symm.trans H; with_reducible exact H2_) | with_reducible exact H | (rw [hy327]; exact H) | exact H
               have Ny327 := Aside0.mk hy327
               clear hy327
               have H' := Aside0.mk H
               clear H
               go_wp2_with (first | ((with_reducible refine gate_builtin (b := .append) (xs := #[.tmp 47, .tmp 48]) rfl ?_); at_builtin; refine Kd.R_append (Kd.int .i64) (w0 := w) w.heap.size rfl (.tmp 47) (.tmp 48) 28 3 (.int .i64 0) 8 rfl Try.underlying28 info3 rfl (by decide) (by omega) u11 x11_17 2 [.int .i64 2] (fun _ => True) (fun _ => False) rfl rfl ?aP (fun _ hk => hk.elim) ?aF ?aO ?aB ?aS ?aL ?_; (case aP => exact rfl); (case aB => exact (bel2 HB GE320 GE323)); (case aF => exact (fun _ _ => trivial)); (case aO => exact (rdl HO_11)); (case aS => exact (below_size (bel2 HB GE320 GE323))); (case aL => have := LMc35.out; omega); intro v328 w36 ho hb hg hat; rw [← Ny327.out] at ho; have n0_ := Aside0.mk (blk_grown (g := gb320) (o := .cells #[.string ((rd_T61 l1 (ji8)).f0), .int .i64 ((rd_T61 l1 (ji8)).f1), .int .i64 ((rd_T61 l1 (ji8)).f2), .int .i64 ((rd_T61 l1 (ji8)).f3), .int .i64 ((rd_T61 l1 (ji8)).f4)] 61 (0, 0)) (bkl BK320) hg (Kd.R_ne HO_11.out BK320.out (by decide))); have n1_ := Aside0.mk (blk_grown (g := gb323) (o := .cells #[.string ((rd_T61 l1 (ji15)).f0), .int .i64 ((rd_T61 l1 (ji15)).f1), .int .i64 ((rd_T61 l1 (ji15)).f2), .int .i64 ((rd_T61 l1 (ji15)).f3), .int .i64 ((rd_T61 l1 (ji15)).f4)] 61 (0, 0)) (bkl BK323) hg (Kd.R_ne HO_11.out BK323.out (by decide))); have n2_ := Aside0.mk (hb); have n3_ := Aside0.mk (ho); clear BK320; clear BK323; clear HB; clear HO_11; have BK320 := n0_; have BK323 := n1_; have HB := n2_; have HO329 := n3_; clear n0_ n1_ n2_ n3_; clear ho hb hg hat))
               go_meet
               case rel => exact ⟨_, (y327), H', ⟨by have := HJ17.out; first | omega | exact Nat.le_refl _⟩, ⟨rdl HO329⟩, ⟨bkl BK320⟩, ⟨bkl BK323⟩, ⟨bel2 HB GE320 GE323⟩⟩
              ·rw [if_neg c35] at H
               exact absurd H (by simp)
            case rest =>
             clear HC30
             try clear c1
             try clear c2
             try clear p2
             try clear c3
             try clear p3
             try clear q3
             try clear hx3
             try clear c5
             try clear c6
             try clear c6b0
             try clear p6
             try clear c7
             try clear c7b0
             try clear c9
             try clear c9b0
             try clear c10
             try clear c10b0
             try clear c11
             try clear c11b0
             try clear c13
             try clear c13b0
             try clear c14
             try clear c14b0
             try clear c16
             try clear c16b0
             try clear c17
             try clear c17b0
             try clear c24
             try clear c27
             try clear c27b0
             try clear c28
             try clear c31
             try clear p31
             try clear q31
             try clear hx31
             try clear p32
             try clear q32
             try clear hx32
             try clear c34
             try clear c34b0
             try clear c34b1
             try clear c35
             try clear hcz22_0
             try clear hcz22_1
             try clear hcz22_2
             try clear hcz22_3
             try clear hcz22_4
             try clear hcz25_0
             try clear hcz25_1
             try clear hcz25_2
             try clear hcz25_3
             try clear hcz25_4
             try clear hcz26_0
             try clear hcz26_1
             try clear hcz26_2
             try clear hcz26_3
             try clear hcz26_4
             try clear hcz32_0
             try clear hcz32_1
             try clear hcz32_2
             try clear hcz32_3
             try clear hcz32_4
             try clear hcz33_0
             try clear hcz33_1
             try clear hcz33_2
             try clear hcz33_3
             try clear hcz33_4
             try clear hfz22_0
             try clear hfz22_1
             try clear hfz22_2
             try clear hfz22_3
             try clear hfz22_4
             try clear hfz25_0
             try clear hfz25_1
             try clear hfz25_2
             try clear hfz25_3
             try clear hfz25_4
             try clear hfz26_0
             try clear hfz26_1
             try clear hfz26_2
             try clear hfz26_3
             try clear hfz26_4
             try clear hfz32_0
             try clear hfz32_1
             try clear hfz32_2
             try clear hfz32_3
             try clear hfz32_4
             try clear hfz33_0
             try clear hfz33_1
             try clear hfz33_2
             try clear hfz33_3
             try clear hfz33_4
             try clear hx318_0
             try clear hx319_0
             try clear hx319_1
             try clear hx319_2
             try clear hx319_3
             try clear hx319_4
             try clear hx321_0
             try clear hx322_0
             try clear hx322_1
             try clear hx322_2
             try clear hx322_3
             try clear hx322_4
             try clear p2
             try clear p3
             try clear p318
             try clear p319
             try clear p321
             try clear p322
             try clear p6
             try clear q3
             try clear q318
             try clear q319
             try clear q321
             try clear q322
             obtain ⟨kq, x11_29, HA, HJ29, HO_11, BK320, BK323, HB⟩ := hcut
             cases kq with
             | zero => exact absurd HA.out (by simp [impl_brokenRules.j1])
             | succ kj29 =>
              have H := HA.out
              clear HA
              simp only [impl_brokenRules.j1] at H
              by_cases c37 : ((rd_T61 l1 (ji8)).f3) = 3
              ·rw [if_pos c37] at H
               have c37b0 : (((rd_T61 l1 (ji8)).f3) == 3) = true := beq_iff_eq.mpr c37
               have c37b1 : (((rd_T61 l1 (ji8)).f3) != 3) = false := bne_eq_false_iff_eq.mpr c37
               clear c37
               by_cases c38 : x11_29.length < 17592186044416
               ·rw [if_pos c38] at H
                have LMc38 := Aside0.mk c38
                clear c38
                obtain ⟨y330, hy330⟩ : ∃ y_ : List Int, y_ = (x11_29 ++ [3]) := ⟨_, rfl⟩
                replace H : (if ((rd_T61 l1 (ji8)).f3) = 2 then (if a3 ≥ a2 then (if y330.length < 17592186044416 then (some (y330 ++ [4])) else (none)) else (some y330)) else (some y330)) = some r := by first | (rw [hy330]; with_reducible exact H) | (have H2_ := (Option.bind_some _ _).symm.trans H; rw [hy330]; with_reducible exact H2_) | (have H2_ := (Option.bind_some _ _).symm.trans H; with_reducible exact H2_) | with_reducible exact H | (rw [hy330]; exact H) | exact H
                have Ny330 := Aside0.mk hy330
                clear hy330
                by_cases c39 : ((rd_T61 l1 (ji8)).f3) = 2
                ·rw [if_pos c39] at H
                 have c39b0 : (((rd_T61 l1 (ji8)).f3) == 2) = true := beq_iff_eq.mpr c39
                 have c39b1 : (((rd_T61 l1 (ji8)).f3) != 2) = false := bne_eq_false_iff_eq.mpr c39
                 clear c39
                 by_cases c40 : a3 ≥ a2
                 ·rw [if_pos c40] at H
                  have c40b0 : decide (a2 ≤ a3) = true := decide_eq_true c40
                  clear c40
                  by_cases c41 : y330.length < 17592186044416
                  ·rw [if_pos c41] at H
                   have LMc41 := Aside0.mk c41
                   clear c41
                   obtain ⟨y333, hy333⟩ : ∃ y_ : List Int, y_ = (y330 ++ [4]) := ⟨_, rfl⟩
                   replace H : (some y333) = some r := by first | (rw [hy333]; with_reducible exact H) | (have H2_ := (Option.bind_some _ _).symm.trans H; rw [hy333]; with_reducible exact H2_) | (have H2_ := (Option.bind_some _ _).symm.trans H; with_reducible exact H2_) | with_reducible exact H | (rw [hy333]; exact H) | exact H
                   have Ny333 := Aside0.mk hy333
                   clear hy333
                   obtain rfl := Option.some.inj H
                   have hnb42 := NB320_323.out
                   have hnc42 := NB323_320.out
                   have hcz43_0 : wc.cell? ⟨gb320, 0, none⟩ = some (.string ((rd_T61 l1 (ji8)).f0)) := (blk_cell BK320.out 0).trans rfl
                   have hcz43_1 : wc.cell? ⟨gb320, 1, none⟩ = some (.int .i64 ((rd_T61 l1 (ji8)).f1)) := (blk_cell BK320.out 1).trans rfl
                   have hcz43_2 : wc.cell? ⟨gb320, 2, none⟩ = some (.int .i64 ((rd_T61 l1 (ji8)).f2)) := (blk_cell BK320.out 2).trans rfl
                   have hcz43_3 : wc.cell? ⟨gb320, 3, none⟩ = some (.int .i64 ((rd_T61 l1 (ji8)).f3)) := (blk_cell BK320.out 3).trans rfl
                   have hcz43_4 : wc.cell? ⟨gb320, 4, none⟩ = some (.int .i64 ((rd_T61 l1 (ji8)).f4)) := (blk_cell BK320.out 4).trans rfl
                   have hfz43_0 := blk_frozen BK320.out 0
                   have hfz43_1 := blk_frozen BK320.out 1
                   have hfz43_2 := blk_frozen BK320.out 2
                   have hfz43_3 := blk_frozen BK320.out 3
                   have hfz43_4 := blk_frozen BK320.out 4
                   go_wp2_with (first | ((with_reducible refine gate_builtin (b := .append) (xs := #[.tmp 53, .tmp 54]) rfl ?_); at_builtin; refine Kd.R_append (Kd.int .i64) (w0 := w) w.heap.size rfl (.tmp 53) (.tmp 54) 28 3 (.int .i64 0) 8 rfl Try.underlying28 info3 rfl (by decide) (by omega) u11 x11_29 3 [.int .i64 3] (fun _ => True) (fun _ => False) rfl rfl ?aP (fun _ hk => hk.elim) ?aF ?aO ?aB ?aS ?aL ?_; (case aP => exact rfl); (case aB => exact (bel2 HB GE320 GE323)); (case aF => exact (fun _ _ => trivial)); (case aO => exact (rdl HO_11)); (case aS => exact (below_size (bel2 HB GE320 GE323))); (case aL => have := LMc38.out; omega); intro v331 w44 ho hb hg hat; rw [← Ny330.out] at ho; have n0_ := Aside0.mk (blk_grown (g := gb320) (o := .cells #[.string ((rd_T61 l1 (ji8)).f0), .int .i64 ((rd_T61 l1 (ji8)).f1), .int .i64 ((rd_T61 l1 (ji8)).f2), .int .i64 ((rd_T61 l1 (ji8)).f3), .int .i64 ((rd_T61 l1 (ji8)).f4)] 61 (0, 0)) (bkl BK320) hg (Kd.R_ne HO_11.out BK320.out (by decide))); have n1_ := Aside0.mk (blk_grown (g := gb323) (o := .cells #[.string ((rd_T61 l1 (ji15)).f0), .int .i64 ((rd_T61 l1 (ji15)).f1), .int .i64 ((rd_T61 l1 (ji15)).f2), .int .i64 ((rd_T61 l1 (ji15)).f3), .int .i64 ((rd_T61 l1 (ji15)).f4)] 61 (0, 0)) (bkl BK323) hg (Kd.R_ne HO_11.out BK323.out (by decide))); have n2_ := Aside0.mk (hb); have n3_ := Aside0.mk (ho); clear BK320; clear BK323; clear HB; clear HO_11; have BK320 := n0_; have BK323 := n1_; have HB := n2_; have HO332 := n3_; clear n0_ n1_ n2_ n3_; clear ho hb hg hat; have hcz45_0 : w44.cell? ⟨gb320, 0, none⟩ = some (.string ((rd_T61 l1 (ji8)).f0)) := (blk_cell BK320.out 0).trans rfl; have hcz45_1 : w44.cell? ⟨gb320, 1, none⟩ = some (.int .i64 ((rd_T61 l1 (ji8)).f1)) := (blk_cell BK320.out 1).trans rfl; have hcz45_2 : w44.cell? ⟨gb320, 2, none⟩ = some (.int .i64 ((rd_T61 l1 (ji8)).f2)) := (blk_cell BK320.out 2).trans rfl; have hcz45_3 : w44.cell? ⟨gb320, 3, none⟩ = some (.int .i64 ((rd_T61 l1 (ji8)).f3)) := (blk_cell BK320.out 3).trans rfl; have hcz45_4 : w44.cell? ⟨gb320, 4, none⟩ = some (.int .i64 ((rd_T61 l1 (ji8)).f4)) := (blk_cell BK320.out 4).trans rfl; have hfz45_0 := blk_frozen BK320.out 0; have hfz45_1 := blk_frozen BK320.out 1; have hfz45_2 := blk_frozen BK320.out 2; have hfz45_3 := blk_frozen BK320.out 3; have hfz45_4 := blk_frozen BK320.out 4) | ((with_reducible refine gate_builtin (b := .append) (xs := #[.tmp 64, .tmp 65]) rfl ?_); at_builtin; refine Kd.R_append (Kd.int .i64) (w0 := w) w.heap.size rfl (.tmp 64) (.tmp 65) 28 3 (.int .i64 0) 8 rfl Try.underlying28 info3 rfl (by decide) (by omega) v331 y330 4 [.int .i64 4] (fun _ => True) (fun _ => False) rfl rfl ?aP (fun _ hk => hk.elim) ?aF ?aO ?aB ?aS ?aL ?_; (case aP => exact rfl); (case aB => exact (bel2 HB GE320 GE323)); (case aF => exact (fun _ _ => trivial)); (case aO => exact (rdl HO332)); (case aS => exact (below_size (bel2 HB GE320 GE323))); (case aL => have := LMc41.out; omega); intro v334 w46 ho hb hg hat; rw [← Ny333.out] at ho; have n0_ := Aside0.mk (blk_grown (g := gb320) (o := .cells #[.string ((rd_T61 l1 (ji8)).f0), .int .i64 ((rd_T61 l1 (ji8)).f1), .int .i64 ((rd_T61 l1 (ji8)).f2), .int .i64 ((rd_T61 l1 (ji8)).f3), .int .i64 ((rd_T61 l1 (ji8)).f4)] 61 (0, 0)) (bkl BK320) hg (Kd.R_ne HO332.out BK320.out (by decide))); have n1_ := Aside0.mk (blk_grown (g := gb323) (o := .cells #[.string ((rd_T61 l1 (ji15)).f0), .int .i64 ((rd_T61 l1 (ji15)).f1), .int .i64 ((rd_T61 l1 (ji15)).f2), .int .i64 ((rd_T61 l1 (ji15)).f3), .int .i64 ((rd_T61 l1 (ji15)).f4)] 61 (0, 0)) (bkl BK323) hg (Kd.R_ne HO332.out BK323.out (by decide))); have n2_ := Aside0.mk (hb); have n3_ := Aside0.mk (ho); clear BK320; clear BK323; clear HB; clear HO332; have BK320 := n0_; have BK323 := n1_; have HB := n2_; have HO335 := n3_; clear n0_ n1_ n2_ n3_; clear ho hb hg hat))
                   go_ret
                   exact ⟨_, by first | rfl | (simp [errW_none, errW_some] <;> rfl) | (simp only [← hji8, ← hji12, ← hji15]; first | rfl | (simp [errW_none, errW_some] <;> rfl)) | (simp [*, errW_none, errW_some] <;> rfl), rdl HO335, bel2 HB GE320 GE323⟩
                  ·rw [if_neg c41] at H
                   exact absurd H (by simp)
                 ·rw [if_neg c40] at H
                  have c40b0 : decide (a2 ≤ a3) = false := decide_eq_false c40
                  clear c40
                  obtain rfl := Option.some.inj H
                  have hnb47 := NB320_323.out
                  have hnc47 := NB323_320.out
                  have hcz48_0 : wc.cell? ⟨gb320, 0, none⟩ = some (.string ((rd_T61 l1 (ji8)).f0)) := (blk_cell BK320.out 0).trans rfl
                  have hcz48_1 : wc.cell? ⟨gb320, 1, none⟩ = some (.int .i64 ((rd_T61 l1 (ji8)).f1)) := (blk_cell BK320.out 1).trans rfl
                  have hcz48_2 : wc.cell? ⟨gb320, 2, none⟩ = some (.int .i64 ((rd_T61 l1 (ji8)).f2)) := (blk_cell BK320.out 2).trans rfl
                  have hcz48_3 : wc.cell? ⟨gb320, 3, none⟩ = some (.int .i64 ((rd_T61 l1 (ji8)).f3)) := (blk_cell BK320.out 3).trans rfl
                  have hcz48_4 : wc.cell? ⟨gb320, 4, none⟩ = some (.int .i64 ((rd_T61 l1 (ji8)).f4)) := (blk_cell BK320.out 4).trans rfl
                  have hfz48_0 := blk_frozen BK320.out 0
                  have hfz48_1 := blk_frozen BK320.out 1
                  have hfz48_2 := blk_frozen BK320.out 2
                  have hfz48_3 := blk_frozen BK320.out 3
                  have hfz48_4 := blk_frozen BK320.out 4
                  go_wp2_with (first | ((with_reducible refine gate_builtin (b := .append) (xs := #[.tmp 53, .tmp 54]) rfl ?_); at_builtin; refine Kd.R_append (Kd.int .i64) (w0 := w) w.heap.size rfl (.tmp 53) (.tmp 54) 28 3 (.int .i64 0) 8 rfl Try.underlying28 info3 rfl (by decide) (by omega) u11 x11_29 3 [.int .i64 3] (fun _ => True) (fun _ => False) rfl rfl ?aP (fun _ hk => hk.elim) ?aF ?aO ?aB ?aS ?aL ?_; (case aP => exact rfl); (case aB => exact (bel2 HB GE320 GE323)); (case aF => exact (fun _ _ => trivial)); (case aO => exact (rdl HO_11)); (case aS => exact (below_size (bel2 HB GE320 GE323))); (case aL => have := LMc38.out; omega); intro v331 w49 ho hb hg hat; rw [← Ny330.out] at ho; have n0_ := Aside0.mk (blk_grown (g := gb320) (o := .cells #[.string ((rd_T61 l1 (ji8)).f0), .int .i64 ((rd_T61 l1 (ji8)).f1), .int .i64 ((rd_T61 l1 (ji8)).f2), .int .i64 ((rd_T61 l1 (ji8)).f3), .int .i64 ((rd_T61 l1 (ji8)).f4)] 61 (0, 0)) (bkl BK320) hg (Kd.R_ne HO_11.out BK320.out (by decide))); have n1_ := Aside0.mk (blk_grown (g := gb323) (o := .cells #[.string ((rd_T61 l1 (ji15)).f0), .int .i64 ((rd_T61 l1 (ji15)).f1), .int .i64 ((rd_T61 l1 (ji15)).f2), .int .i64 ((rd_T61 l1 (ji15)).f3), .int .i64 ((rd_T61 l1 (ji15)).f4)] 61 (0, 0)) (bkl BK323) hg (Kd.R_ne HO_11.out BK323.out (by decide))); have n2_ := Aside0.mk (hb); have n3_ := Aside0.mk (ho); clear BK320; clear BK323; clear HB; clear HO_11; have BK320 := n0_; have BK323 := n1_; have HB := n2_; have HO332 := n3_; clear n0_ n1_ n2_ n3_; clear ho hb hg hat; have hcz50_0 : w49.cell? ⟨gb320, 0, none⟩ = some (.string ((rd_T61 l1 (ji8)).f0)) := (blk_cell BK320.out 0).trans rfl; have hcz50_1 : w49.cell? ⟨gb320, 1, none⟩ = some (.int .i64 ((rd_T61 l1 (ji8)).f1)) := (blk_cell BK320.out 1).trans rfl; have hcz50_2 : w49.cell? ⟨gb320, 2, none⟩ = some (.int .i64 ((rd_T61 l1 (ji8)).f2)) := (blk_cell BK320.out 2).trans rfl; have hcz50_3 : w49.cell? ⟨gb320, 3, none⟩ = some (.int .i64 ((rd_T61 l1 (ji8)).f3)) := (blk_cell BK320.out 3).trans rfl; have hcz50_4 : w49.cell? ⟨gb320, 4, none⟩ = some (.int .i64 ((rd_T61 l1 (ji8)).f4)) := (blk_cell BK320.out 4).trans rfl; have hfz50_0 := blk_frozen BK320.out 0; have hfz50_1 := blk_frozen BK320.out 1; have hfz50_2 := blk_frozen BK320.out 2; have hfz50_3 := blk_frozen BK320.out 3; have hfz50_4 := blk_frozen BK320.out 4))
                  go_ret
                  exact ⟨_, by first | rfl | (simp [errW_none, errW_some] <;> rfl) | (simp only [← hji8, ← hji12, ← hji15]; first | rfl | (simp [errW_none, errW_some] <;> rfl)) | (simp [*, errW_none, errW_some] <;> rfl), rdl HO332, bel2 HB GE320 GE323⟩
                ·rw [if_neg c39] at H
                 have c39b0 : (((rd_T61 l1 (ji8)).f3) == 2) = false := beq_eq_false_iff_ne.mpr c39
                 have c39b1 : (((rd_T61 l1 (ji8)).f3) != 2) = true := bne_iff_ne.mpr c39
                 obtain rfl := Option.some.inj H
                 have hnb51 := NB320_323.out
                 have hnc51 := NB323_320.out
                 have hcz52_0 : wc.cell? ⟨gb320, 0, none⟩ = some (.string ((rd_T61 l1 (ji8)).f0)) := (blk_cell BK320.out 0).trans rfl
                 have hcz52_1 : wc.cell? ⟨gb320, 1, none⟩ = some (.int .i64 ((rd_T61 l1 (ji8)).f1)) := (blk_cell BK320.out 1).trans rfl
                 have hcz52_2 : wc.cell? ⟨gb320, 2, none⟩ = some (.int .i64 ((rd_T61 l1 (ji8)).f2)) := (blk_cell BK320.out 2).trans rfl
                 have hcz52_3 : wc.cell? ⟨gb320, 3, none⟩ = some (.int .i64 ((rd_T61 l1 (ji8)).f3)) := (blk_cell BK320.out 3).trans rfl
                 have hcz52_4 : wc.cell? ⟨gb320, 4, none⟩ = some (.int .i64 ((rd_T61 l1 (ji8)).f4)) := (blk_cell BK320.out 4).trans rfl
                 have hfz52_0 := blk_frozen BK320.out 0
                 have hfz52_1 := blk_frozen BK320.out 1
                 have hfz52_2 := blk_frozen BK320.out 2
                 have hfz52_3 := blk_frozen BK320.out 3
                 have hfz52_4 := blk_frozen BK320.out 4
                 go_wp2_with (first | ((with_reducible refine gate_builtin (b := .append) (xs := #[.tmp 53, .tmp 54]) rfl ?_); at_builtin; refine Kd.R_append (Kd.int .i64) (w0 := w) w.heap.size rfl (.tmp 53) (.tmp 54) 28 3 (.int .i64 0) 8 rfl Try.underlying28 info3 rfl (by decide) (by omega) u11 x11_29 3 [.int .i64 3] (fun _ => True) (fun _ => False) rfl rfl ?aP (fun _ hk => hk.elim) ?aF ?aO ?aB ?aS ?aL ?_; (case aP => exact rfl); (case aB => exact (bel2 HB GE320 GE323)); (case aF => exact (fun _ _ => trivial)); (case aO => exact (rdl HO_11)); (case aS => exact (below_size (bel2 HB GE320 GE323))); (case aL => have := LMc38.out; omega); intro v331 w53 ho hb hg hat; rw [← Ny330.out] at ho; have n0_ := Aside0.mk (blk_grown (g := gb320) (o := .cells #[.string ((rd_T61 l1 (ji8)).f0), .int .i64 ((rd_T61 l1 (ji8)).f1), .int .i64 ((rd_T61 l1 (ji8)).f2), .int .i64 ((rd_T61 l1 (ji8)).f3), .int .i64 ((rd_T61 l1 (ji8)).f4)] 61 (0, 0)) (bkl BK320) hg (Kd.R_ne HO_11.out BK320.out (by decide))); have n1_ := Aside0.mk (blk_grown (g := gb323) (o := .cells #[.string ((rd_T61 l1 (ji15)).f0), .int .i64 ((rd_T61 l1 (ji15)).f1), .int .i64 ((rd_T61 l1 (ji15)).f2), .int .i64 ((rd_T61 l1 (ji15)).f3), .int .i64 ((rd_T61 l1 (ji15)).f4)] 61 (0, 0)) (bkl BK323) hg (Kd.R_ne HO_11.out BK323.out (by decide))); have n2_ := Aside0.mk (hb); have n3_ := Aside0.mk (ho); clear BK320; clear BK323; clear HB; clear HO_11; have BK320 := n0_; have BK323 := n1_; have HB := n2_; have HO332 := n3_; clear n0_ n1_ n2_ n3_; clear ho hb hg hat; have hcz54_0 : w53.cell? ⟨gb320, 0, none⟩ = some (.string ((rd_T61 l1 (ji8)).f0)) := (blk_cell BK320.out 0).trans rfl; have hcz54_1 : w53.cell? ⟨gb320, 1, none⟩ = some (.int .i64 ((rd_T61 l1 (ji8)).f1)) := (blk_cell BK320.out 1).trans rfl; have hcz54_2 : w53.cell? ⟨gb320, 2, none⟩ = some (.int .i64 ((rd_T61 l1 (ji8)).f2)) := (blk_cell BK320.out 2).trans rfl; have hcz54_3 : w53.cell? ⟨gb320, 3, none⟩ = some (.int .i64 ((rd_T61 l1 (ji8)).f3)) := (blk_cell BK320.out 3).trans rfl; have hcz54_4 : w53.cell? ⟨gb320, 4, none⟩ = some (.int .i64 ((rd_T61 l1 (ji8)).f4)) := (blk_cell BK320.out 4).trans rfl; have hfz54_0 := blk_frozen BK320.out 0; have hfz54_1 := blk_frozen BK320.out 1; have hfz54_2 := blk_frozen BK320.out 2; have hfz54_3 := blk_frozen BK320.out 3; have hfz54_4 := blk_frozen BK320.out 4))
                 go_ret
                 exact ⟨_, by first | rfl | (simp [errW_none, errW_some] <;> rfl) | (simp only [← hji8, ← hji12, ← hji15]; first | rfl | (simp [errW_none, errW_some] <;> rfl)) | (simp [*, errW_none, errW_some] <;> rfl), rdl HO332, bel2 HB GE320 GE323⟩
               ·rw [if_neg c38] at H
                exact absurd H (by simp)
              ·rw [if_neg c37] at H
               have c37b0 : (((rd_T61 l1 (ji8)).f3) == 3) = false := beq_eq_false_iff_ne.mpr c37
               have c37b1 : (((rd_T61 l1 (ji8)).f3) != 3) = true := bne_iff_ne.mpr c37
               by_cases c55 : ((rd_T61 l1 (ji8)).f3) = 2
               ·rw [if_pos c55] at H
                have c55b0 : (((rd_T61 l1 (ji8)).f3) == 2) = true := beq_iff_eq.mpr c55
                have c55b1 : (((rd_T61 l1 (ji8)).f3) != 2) = false := bne_eq_false_iff_eq.mpr c55
                clear c55
                by_cases c56 : a3 ≥ a2
                ·rw [if_pos c56] at H
                 have c56b0 : decide (a2 ≤ a3) = true := decide_eq_true c56
                 clear c56
                 by_cases c57 : x11_29.length < 17592186044416
                 ·rw [if_pos c57] at H
                  have LMc57 := Aside0.mk c57
                  clear c57
                  obtain ⟨y336, hy336⟩ : ∃ y_ : List Int, y_ = (x11_29 ++ [4]) := ⟨_, rfl⟩
                  replace H : (some y336) = some r := by first | (rw [hy336]; with_reducible exact H) | (have H2_ := (Option.bind_some _ _).symm.trans H; rw [hy336]; with_reducible exact H2_) | (have H2_ := (Option.bind_some _ _).symm.trans H; with_reducible exact H2_) | with_reducible exact H | (rw [hy336]; exact H) | exact H
                  have Ny336 := Aside0.mk hy336
                  clear hy336
                  obtain rfl := Option.some.inj H
                  have hnb58 := NB320_323.out
                  have hnc58 := NB323_320.out
                  have hcz59_0 : wc.cell? ⟨gb320, 0, none⟩ = some (.string ((rd_T61 l1 (ji8)).f0)) := (blk_cell BK320.out 0).trans rfl
                  have hcz59_1 : wc.cell? ⟨gb320, 1, none⟩ = some (.int .i64 ((rd_T61 l1 (ji8)).f1)) := (blk_cell BK320.out 1).trans rfl
                  have hcz59_2 : wc.cell? ⟨gb320, 2, none⟩ = some (.int .i64 ((rd_T61 l1 (ji8)).f2)) := (blk_cell BK320.out 2).trans rfl
                  have hcz59_3 : wc.cell? ⟨gb320, 3, none⟩ = some (.int .i64 ((rd_T61 l1 (ji8)).f3)) := (blk_cell BK320.out 3).trans rfl
                  have hcz59_4 : wc.cell? ⟨gb320, 4, none⟩ = some (.int .i64 ((rd_T61 l1 (ji8)).f4)) := (blk_cell BK320.out 4).trans rfl
                  have hfz59_0 := blk_frozen BK320.out 0
                  have hfz59_1 := blk_frozen BK320.out 1
                  have hfz59_2 := blk_frozen BK320.out 2
                  have hfz59_3 := blk_frozen BK320.out 3
                  have hfz59_4 := blk_frozen BK320.out 4
                  go_wp2_with (first | ((with_reducible refine gate_builtin (b := .append) (xs := #[.tmp 64, .tmp 65]) rfl ?_); at_builtin; refine Kd.R_append (Kd.int .i64) (w0 := w) w.heap.size rfl (.tmp 64) (.tmp 65) 28 3 (.int .i64 0) 8 rfl Try.underlying28 info3 rfl (by decide) (by omega) u11 x11_29 4 [.int .i64 4] (fun _ => True) (fun _ => False) rfl rfl ?aP (fun _ hk => hk.elim) ?aF ?aO ?aB ?aS ?aL ?_; (case aP => exact rfl); (case aB => exact (bel2 HB GE320 GE323)); (case aF => exact (fun _ _ => trivial)); (case aO => exact (rdl HO_11)); (case aS => exact (below_size (bel2 HB GE320 GE323))); (case aL => have := LMc57.out; omega); intro v337 w60 ho hb hg hat; rw [← Ny336.out] at ho; have n0_ := Aside0.mk (blk_grown (g := gb320) (o := .cells #[.string ((rd_T61 l1 (ji8)).f0), .int .i64 ((rd_T61 l1 (ji8)).f1), .int .i64 ((rd_T61 l1 (ji8)).f2), .int .i64 ((rd_T61 l1 (ji8)).f3), .int .i64 ((rd_T61 l1 (ji8)).f4)] 61 (0, 0)) (bkl BK320) hg (Kd.R_ne HO_11.out BK320.out (by decide))); have n1_ := Aside0.mk (blk_grown (g := gb323) (o := .cells #[.string ((rd_T61 l1 (ji15)).f0), .int .i64 ((rd_T61 l1 (ji15)).f1), .int .i64 ((rd_T61 l1 (ji15)).f2), .int .i64 ((rd_T61 l1 (ji15)).f3), .int .i64 ((rd_T61 l1 (ji15)).f4)] 61 (0, 0)) (bkl BK323) hg (Kd.R_ne HO_11.out BK323.out (by decide))); have n2_ := Aside0.mk (hb); have n3_ := Aside0.mk (ho); clear BK320; clear BK323; clear HB; clear HO_11; have BK320 := n0_; have BK323 := n1_; have HB := n2_; have HO338 := n3_; clear n0_ n1_ n2_ n3_; clear ho hb hg hat))
                  go_ret
                  exact ⟨_, by first | rfl | (simp [errW_none, errW_some] <;> rfl) | (simp only [← hji8, ← hji12, ← hji15]; first | rfl | (simp [errW_none, errW_some] <;> rfl)) | (simp [*, errW_none, errW_some] <;> rfl), rdl HO338, bel2 HB GE320 GE323⟩
                 ·rw [if_neg c57] at H
                  exact absurd H (by simp)
                ·rw [if_neg c56] at H
                 have c56b0 : decide (a2 ≤ a3) = false := decide_eq_false c56
                 clear c56
                 obtain rfl := Option.some.inj H
                 have hnb61 := NB320_323.out
                 have hnc61 := NB323_320.out
                 have hcz62_0 : wc.cell? ⟨gb320, 0, none⟩ = some (.string ((rd_T61 l1 (ji8)).f0)) := (blk_cell BK320.out 0).trans rfl
                 have hcz62_1 : wc.cell? ⟨gb320, 1, none⟩ = some (.int .i64 ((rd_T61 l1 (ji8)).f1)) := (blk_cell BK320.out 1).trans rfl
                 have hcz62_2 : wc.cell? ⟨gb320, 2, none⟩ = some (.int .i64 ((rd_T61 l1 (ji8)).f2)) := (blk_cell BK320.out 2).trans rfl
                 have hcz62_3 : wc.cell? ⟨gb320, 3, none⟩ = some (.int .i64 ((rd_T61 l1 (ji8)).f3)) := (blk_cell BK320.out 3).trans rfl
                 have hcz62_4 : wc.cell? ⟨gb320, 4, none⟩ = some (.int .i64 ((rd_T61 l1 (ji8)).f4)) := (blk_cell BK320.out 4).trans rfl
                 have hfz62_0 := blk_frozen BK320.out 0
                 have hfz62_1 := blk_frozen BK320.out 1
                 have hfz62_2 := blk_frozen BK320.out 2
                 have hfz62_3 := blk_frozen BK320.out 3
                 have hfz62_4 := blk_frozen BK320.out 4
                 go_wp2
                 go_ret
                 exact ⟨_, by first | rfl | (simp [errW_none, errW_some] <;> rfl) | (simp only [← hji8, ← hji12, ← hji15]; first | rfl | (simp [errW_none, errW_some] <;> rfl)) | (simp [*, errW_none, errW_some] <;> rfl), rdl HO_11, bel2 HB GE320 GE323⟩
               ·rw [if_neg c55] at H
                have c55b0 : (((rd_T61 l1 (ji8)).f3) == 2) = false := beq_eq_false_iff_ne.mpr c55
                have c55b1 : (((rd_T61 l1 (ji8)).f3) != 2) = true := bne_iff_ne.mpr c55
                obtain rfl := Option.some.inj H
                have hnb63 := NB320_323.out
                have hnc63 := NB323_320.out
                have hcz64_0 : wc.cell? ⟨gb320, 0, none⟩ = some (.string ((rd_T61 l1 (ji8)).f0)) := (blk_cell BK320.out 0).trans rfl
                have hcz64_1 : wc.cell? ⟨gb320, 1, none⟩ = some (.int .i64 ((rd_T61 l1 (ji8)).f1)) := (blk_cell BK320.out 1).trans rfl
                have hcz64_2 : wc.cell? ⟨gb320, 2, none⟩ = some (.int .i64 ((rd_T61 l1 (ji8)).f2)) := (blk_cell BK320.out 2).trans rfl
                have hcz64_3 : wc.cell? ⟨gb320, 3, none⟩ = some (.int .i64 ((rd_T61 l1 (ji8)).f3)) := (blk_cell BK320.out 3).trans rfl
                have hcz64_4 : wc.cell? ⟨gb320, 4, none⟩ = some (.int .i64 ((rd_T61 l1 (ji8)).f4)) := (blk_cell BK320.out 4).trans rfl
                have hfz64_0 := blk_frozen BK320.out 0
                have hfz64_1 := blk_frozen BK320.out 1
                have hfz64_2 := blk_frozen BK320.out 2
                have hfz64_3 := blk_frozen BK320.out 3
                have hfz64_4 := blk_frozen BK320.out 4
                go_wp2
                go_ret
                exact ⟨_, by first | rfl | (simp [errW_none, errW_some] <;> rfl) | (simp only [← hji8, ← hji12, ← hji15]; first | rfl | (simp [errW_none, errW_some] <;> rfl)) | (simp [*, errW_none, errW_some] <;> rfl), rdl HO_11, bel2 HB GE320 GE323⟩
         ·rw [if_neg c17] at H
          exact absurd H (by simp)
        ·rw [if_neg c16] at H
         exact absurd H (by simp)
       ·rw [if_neg c14] at H
        exact absurd H (by simp)
      ·rw [if_neg c13] at H
       exact absurd H (by simp)
     ·rw [if_neg c11] at H
      have c11b0 : decide (0 < a4) = false := decide_eq_false c11
      clear c11
      by_cases c65 : ((rd_T61 l1 (ji8)).f3) = 2
      ·rw [if_pos c65] at H
       have c65b0 : (((rd_T61 l1 (ji8)).f3) == 2) = true := beq_iff_eq.mpr c65
       have c65b1 : (((rd_T61 l1 (ji8)).f3) != 2) = false := bne_eq_false_iff_eq.mpr c65
       clear c65
       by_cases c66 : a3 ≥ a2
       ·rw [if_pos c66] at H
        have c66b0 : decide (a2 ≤ a3) = true := decide_eq_true c66
        clear c66
        by_cases c67 : y315.length < 17592186044416
        ·rw [if_pos c67] at H
         have LMc67 := Aside0.mk c67
         clear c67
         obtain ⟨y339, hy339⟩ : ∃ y_ : List Int, y_ = (y315 ++ [4]) := ⟨_, rfl⟩
         replace H : (some y339) = some r := by first | (rw [hy339]; with_reducible exact H) | (have H2_ := (Option.bind_some _ _).symm.trans H; rw [hy339]; with_reducible exact H2_) | (have H2_ := (Option.bind_some _ _).symm.trans H; with_reducible exact H2_) | with_reducible exact H | (rw [hy339]; exact H) | exact H
         have Ny339 := Aside0.mk hy339
         clear hy339
         obtain rfl := Option.some.inj H
         go_enter Try.func50, Try.ntmps50
         go_wp2_with (first | ((with_reducible refine gate_dst (N := 14) rfl ?_); refine Kd.R_lit (Kd.int .i64) _ 3 ?hg (N := 14) ?hd (xs := ([] : List Int)) (inner := []) (ok := fun _ => True) (okp := fun _ => True) ?hr ?hp (fun _ hk => hk) trivial (Below.refl _ _) (Nat.le_refl _) (by simp) ?_; (case hd => rfl); (case hg => rfl); (case hr => first | (go_simp; done) | (go_simp; rfl)); (case hp => exact (Reps.none _ _)); intro v316 w68 ho69 hb hg_ hnew_; clear hg_ hnew_; (first | rw [← Ny315.out] at ho69 | (simp only [Int.reduceToNat] at ho69; rw [← Ny315.out] at ho69)); have n0_ := Aside0.mk (Kd.R_lower ho69 (below_size (bel HB))); have n1_ := Aside0.mk (below_step (bel HB) hb); clear HB; have HO317 := n0_; have HB := n1_; clear n0_ n1_; clear hb ho69; have p318 : 0 ≤ (a4 : Int) := oda; have q318 : a4 < (l0.length : Int) := oda; obtain ⟨ad318, e318, hx318_0⟩ := Kd.at_int HR0.out a4 p318 q318; cases e318; replace hx318_0 := cel HB hx318_0; replace p318 := eq_true p318; replace q318 := eq_true q318; have p319 : 0 ≤ ((ji8) : Int) := oda; have q319 : (ji8) < (l1.length : Int) := oda; obtain ⟨ad319, e319, hx319_0, hx319_1, hx319_2, hx319_3, hx319_4⟩ := at_T61 HR1.out (ji8) p319 q319; cases e319; replace hx319_0 := cel HB hx319_0; replace hx319_1 := cel HB hx319_1; replace hx319_2 := cel HB hx319_2; replace hx319_3 := cel HB hx319_3; replace hx319_4 := cel HB hx319_4; replace p319 := eq_true p319; replace q319 := eq_true q319) | ((with_reducible refine gate_dst (N := 12) rfl ?_); refine box_event ?hg (N := 12) ?hd (cs := #[.string (⟨#[]⟩ : ByteArray), .int .i64 0, .int .i64 0, .int .i64 0, .int .i64 0]) (t := 61) ?hr ?_; (case hd => rfl); (case hg => rfl); (case hr => first | (go_simp; done) | (go_simp; rfl)); intro gb320 hg w70 hbox hb; have n0_ := Aside0.mk (Kd.R_below (rdl HO317) hb); have n1_ := Aside0.mk (below_step (bel HB) hb); have n2_ := Aside0.mk (hbox); have n3_ := Aside0.mk ((by rw [hg]; exact (below_size (bel HB)) : w.heap.size ≤ gb320)); have n4_ := Aside0.mk ((by rw [hg]; exact (below_size (bel HB)) : w.heap.size ≤ gb320)); clear HO317; clear HB; have HO317 := n0_; have HB := n1_; have BK320 := n2_; have GW320 := n3_; have GE320 := n4_; clear n0_ n1_ n2_ n3_ n4_; clear hb hbox hg; have hcz71_0 : w70.cell? ⟨gb320, 0, none⟩ = some (.string (⟨#[]⟩ : ByteArray)) := (blk_cell BK320.out 0).trans rfl; have hcz71_1 : w70.cell? ⟨gb320, 1, none⟩ = some (.int .i64 0) := (blk_cell BK320.out 1).trans rfl; have hcz71_2 : w70.cell? ⟨gb320, 2, none⟩ = some (.int .i64 0) := (blk_cell BK320.out 2).trans rfl; have hcz71_3 : w70.cell? ⟨gb320, 3, none⟩ = some (.int .i64 0) := (blk_cell BK320.out 3).trans rfl; have hcz71_4 : w70.cell? ⟨gb320, 4, none⟩ = some (.int .i64 0) := (blk_cell BK320.out 4).trans rfl; have hfz71_0 := blk_frozen BK320.out 0; have hfz71_1 := blk_frozen BK320.out 1; have hfz71_2 := blk_frozen BK320.out 2; have hfz71_3 := blk_frozen BK320.out 3; have hfz71_4 := blk_frozen BK320.out 4) | ((with_reducible refine gate_builtin (b := .append) (xs := #[.tmp 64, .tmp 65]) rfl ?_); at_builtin; refine Kd.R_append (Kd.int .i64) (w0 := w) w.heap.size rfl (.tmp 64) (.tmp 65) 28 3 (.int .i64 0) 8 rfl Try.underlying28 info3 rfl (by decide) (by omega) v316 y315 4 [.int .i64 4] (fun _ => True) (fun _ => False) rfl (by first | (go_simp; done) | (go_simp; rfl)) ?aP (fun _ hk => hk.elim) ?aF ?aO ?aB ?aS ?aL ?_; (case aP => exact rfl); (case aB => exact (bel1 HB GE320)); (case aF => exact (fun _ _ => trivial)); (case aO => exact (by (with_reducible repeat (first | apply Kd.R_alloc | apply Kd.R_drewN | apply Kd.R_drew)); exact Kd.R_mono (Kd.R_far (p := ⟨gb320, 4, none⟩) (Kd.R_far (p := ⟨gb320, 3, none⟩) (Kd.R_far (p := ⟨gb320, 2, none⟩) (Kd.R_far (p := ⟨gb320, 1, none⟩) (Kd.R_far (p := ⟨gb320, 0, none⟩) (Kd.R_types HO317.out BK320.out (by decide)) (fun _ hk => hk.2) (.string ((rd_T61 l1 (ji8)).f0))) (fun _ hk => hk.2) (.int .i64 ((rd_T61 l1 (ji8)).f1))) (fun _ hk => hk.2) (.int .i64 ((rd_T61 l1 (ji8)).f2))) (fun _ hk => hk.2) (.int .i64 ((rd_T61 l1 (ji8)).f3))) (fun _ hk => hk.2) (.int .i64 ((rd_T61 l1 (ji8)).f4))) (fun _ hk => trivial))); (case aS => exact (below_size (bel1 HB GE320))); (case aL => have := LMc67.out; omega); intro v340 w72 ho hb hg hat; rw [← Ny339.out] at ho; have n0_ := Aside0.mk (blk_grown (g := gb320) (o := .cells #[.string ((rd_T61 l1 (ji8)).f0), .int .i64 ((rd_T61 l1 (ji8)).f1), .int .i64 ((rd_T61 l1 (ji8)).f2), .int .i64 ((rd_T61 l1 (ji8)).f3), .int .i64 ((rd_T61 l1 (ji8)).f4)] 61 (0, 0)) (by (with_reducible repeat (first | refine blk_drewN ?_ _ | refine blk_drew ?_ | refine blk_alloc ?_ _)); refine blk_put (cs := #[.string ((rd_T61 l1 (ji8)).f0), .int .i64 ((rd_T61 l1 (ji8)).f1), .int .i64 ((rd_T61 l1 (ji8)).f2), .int .i64 ((rd_T61 l1 (ji8)).f3), .int .i64 0]) ?_ 4 _ rfl; (with_reducible repeat (first | refine blk_drewN ?_ _ | refine blk_drew ?_ | refine blk_alloc ?_ _)); refine blk_put (cs := #[.string ((rd_T61 l1 (ji8)).f0), .int .i64 ((rd_T61 l1 (ji8)).f1), .int .i64 ((rd_T61 l1 (ji8)).f2), .int .i64 0, .int .i64 0]) ?_ 3 _ rfl; (with_reducible repeat (first | refine blk_drewN ?_ _ | refine blk_drew ?_ | refine blk_alloc ?_ _)); refine blk_put (cs := #[.string ((rd_T61 l1 (ji8)).f0), .int .i64 ((rd_T61 l1 (ji8)).f1), .int .i64 0, .int .i64 0, .int .i64 0]) ?_ 2 _ rfl; (with_reducible repeat (first | refine blk_drewN ?_ _ | refine blk_drew ?_ | refine blk_alloc ?_ _)); refine blk_put (cs := #[.string ((rd_T61 l1 (ji8)).f0), .int .i64 0, .int .i64 0, .int .i64 0, .int .i64 0]) ?_ 1 _ rfl; (with_reducible repeat (first | refine blk_drewN ?_ _ | refine blk_drew ?_ | refine blk_alloc ?_ _)); refine blk_put (cs := #[.string (⟨#[]⟩ : ByteArray), .int .i64 0, .int .i64 0, .int .i64 0, .int .i64 0]) ?_ 0 _ rfl; (with_reducible repeat (first | refine blk_drewN ?_ _ | refine blk_drew ?_ | refine blk_alloc ?_ _)); exact BK320.out) hg (Kd.R_ne HO317.out BK320.out (by decide))); have n1_ := Aside0.mk (hb); have n2_ := Aside0.mk (ho); clear BK320; clear HB; clear HO317; have BK320 := n0_; have HB := n1_; have HO341 := n2_; clear n0_ n1_ n2_; clear ho hb hg hat))
         go_ret
         exact ⟨_, by first | rfl | (simp [errW_none, errW_some] <;> rfl) | (simp only [← hji8]; first | rfl | (simp [errW_none, errW_some] <;> rfl)) | (simp [*, errW_none, errW_some] <;> rfl), rdl HO341, bel1 HB GE320⟩
        ·rw [if_neg c67] at H
         exact absurd H (by simp)
       ·rw [if_neg c66] at H
        have c66b0 : decide (a2 ≤ a3) = false := decide_eq_false c66
        clear c66
        obtain rfl := Option.some.inj H
        go_enter Try.func50, Try.ntmps50
        go_wp2_with (first | ((with_reducible refine gate_dst (N := 14) rfl ?_); refine Kd.R_lit (Kd.int .i64) _ 3 ?hg (N := 14) ?hd (xs := ([] : List Int)) (inner := []) (ok := fun _ => True) (okp := fun _ => True) ?hr ?hp (fun _ hk => hk) trivial (Below.refl _ _) (Nat.le_refl _) (by simp) ?_; (case hd => rfl); (case hg => rfl); (case hr => first | (go_simp; done) | (go_simp; rfl)); (case hp => exact (Reps.none _ _)); intro v316 w73 ho74 hb hg_ hnew_; clear hg_ hnew_; (first | rw [← Ny315.out] at ho74 | (simp only [Int.reduceToNat] at ho74; rw [← Ny315.out] at ho74)); have n0_ := Aside0.mk (Kd.R_lower ho74 (below_size (bel HB))); have n1_ := Aside0.mk (below_step (bel HB) hb); clear HB; have HO317 := n0_; have HB := n1_; clear n0_ n1_; clear hb ho74; have p318 : 0 ≤ (a4 : Int) := oda; have q318 : a4 < (l0.length : Int) := oda; obtain ⟨ad318, e318, hx318_0⟩ := Kd.at_int HR0.out a4 p318 q318; cases e318; replace hx318_0 := cel HB hx318_0; replace p318 := eq_true p318; replace q318 := eq_true q318; have p319 : 0 ≤ ((ji8) : Int) := oda; have q319 : (ji8) < (l1.length : Int) := oda; obtain ⟨ad319, e319, hx319_0, hx319_1, hx319_2, hx319_3, hx319_4⟩ := at_T61 HR1.out (ji8) p319 q319; cases e319; replace hx319_0 := cel HB hx319_0; replace hx319_1 := cel HB hx319_1; replace hx319_2 := cel HB hx319_2; replace hx319_3 := cel HB hx319_3; replace hx319_4 := cel HB hx319_4; replace p319 := eq_true p319; replace q319 := eq_true q319) | ((with_reducible refine gate_dst (N := 12) rfl ?_); refine box_event ?hg (N := 12) ?hd (cs := #[.string (⟨#[]⟩ : ByteArray), .int .i64 0, .int .i64 0, .int .i64 0, .int .i64 0]) (t := 61) ?hr ?_; (case hd => rfl); (case hg => rfl); (case hr => first | (go_simp; done) | (go_simp; rfl)); intro gb320 hg w75 hbox hb; have n0_ := Aside0.mk (Kd.R_below (rdl HO317) hb); have n1_ := Aside0.mk (below_step (bel HB) hb); have n2_ := Aside0.mk (hbox); have n3_ := Aside0.mk ((by rw [hg]; exact (below_size (bel HB)) : w.heap.size ≤ gb320)); have n4_ := Aside0.mk ((by rw [hg]; exact (below_size (bel HB)) : w.heap.size ≤ gb320)); clear HO317; clear HB; have HO317 := n0_; have HB := n1_; have BK320 := n2_; have GW320 := n3_; have GE320 := n4_; clear n0_ n1_ n2_ n3_ n4_; clear hb hbox hg; have hcz76_0 : w75.cell? ⟨gb320, 0, none⟩ = some (.string (⟨#[]⟩ : ByteArray)) := (blk_cell BK320.out 0).trans rfl; have hcz76_1 : w75.cell? ⟨gb320, 1, none⟩ = some (.int .i64 0) := (blk_cell BK320.out 1).trans rfl; have hcz76_2 : w75.cell? ⟨gb320, 2, none⟩ = some (.int .i64 0) := (blk_cell BK320.out 2).trans rfl; have hcz76_3 : w75.cell? ⟨gb320, 3, none⟩ = some (.int .i64 0) := (blk_cell BK320.out 3).trans rfl; have hcz76_4 : w75.cell? ⟨gb320, 4, none⟩ = some (.int .i64 0) := (blk_cell BK320.out 4).trans rfl; have hfz76_0 := blk_frozen BK320.out 0; have hfz76_1 := blk_frozen BK320.out 1; have hfz76_2 := blk_frozen BK320.out 2; have hfz76_3 := blk_frozen BK320.out 3; have hfz76_4 := blk_frozen BK320.out 4))
        go_ret
        exact ⟨_, by first | rfl | (simp [errW_none, errW_some] <;> rfl) | (simp only [← hji8]; first | rfl | (simp [errW_none, errW_some] <;> rfl)) | (simp [*, errW_none, errW_some] <;> rfl), by (with_reducible repeat (first | apply Kd.R_alloc | apply Kd.R_drewN | apply Kd.R_drew)); exact Kd.R_mono (Kd.R_far (p := ⟨gb320, 4, none⟩) (Kd.R_far (p := ⟨gb320, 3, none⟩) (Kd.R_far (p := ⟨gb320, 2, none⟩) (Kd.R_far (p := ⟨gb320, 1, none⟩) (Kd.R_far (p := ⟨gb320, 0, none⟩) (Kd.R_types HO317.out BK320.out (by decide)) (fun _ hk => hk.2) (.string ((rd_T61 l1 (ji8)).f0))) (fun _ hk => hk.2) (.int .i64 ((rd_T61 l1 (ji8)).f1))) (fun _ hk => hk.2) (.int .i64 ((rd_T61 l1 (ji8)).f2))) (fun _ hk => hk.2) (.int .i64 ((rd_T61 l1 (ji8)).f3))) (fun _ hk => hk.2) (.int .i64 ((rd_T61 l1 (ji8)).f4))) (fun _ hk => trivial), bel1 HB GE320⟩
      ·rw [if_neg c65] at H
       have c65b0 : (((rd_T61 l1 (ji8)).f3) == 2) = false := beq_eq_false_iff_ne.mpr c65
       have c65b1 : (((rd_T61 l1 (ji8)).f3) != 2) = true := bne_iff_ne.mpr c65
       obtain rfl := Option.some.inj H
       go_enter Try.func50, Try.ntmps50
       go_wp2_with (first | ((with_reducible refine gate_dst (N := 14) rfl ?_); refine Kd.R_lit (Kd.int .i64) _ 3 ?hg (N := 14) ?hd (xs := ([] : List Int)) (inner := []) (ok := fun _ => True) (okp := fun _ => True) ?hr ?hp (fun _ hk => hk) trivial (Below.refl _ _) (Nat.le_refl _) (by simp) ?_; (case hd => rfl); (case hg => rfl); (case hr => first | (go_simp; done) | (go_simp; rfl)); (case hp => exact (Reps.none _ _)); intro v316 w77 ho78 hb hg_ hnew_; clear hg_ hnew_; (first | rw [← Ny315.out] at ho78 | (simp only [Int.reduceToNat] at ho78; rw [← Ny315.out] at ho78)); have n0_ := Aside0.mk (Kd.R_lower ho78 (below_size (bel HB))); have n1_ := Aside0.mk (below_step (bel HB) hb); clear HB; have HO317 := n0_; have HB := n1_; clear n0_ n1_; clear hb ho78; have p318 : 0 ≤ (a4 : Int) := oda; have q318 : a4 < (l0.length : Int) := oda; obtain ⟨ad318, e318, hx318_0⟩ := Kd.at_int HR0.out a4 p318 q318; cases e318; replace hx318_0 := cel HB hx318_0; replace p318 := eq_true p318; replace q318 := eq_true q318; have p319 : 0 ≤ ((ji8) : Int) := oda; have q319 : (ji8) < (l1.length : Int) := oda; obtain ⟨ad319, e319, hx319_0, hx319_1, hx319_2, hx319_3, hx319_4⟩ := at_T61 HR1.out (ji8) p319 q319; cases e319; replace hx319_0 := cel HB hx319_0; replace hx319_1 := cel HB hx319_1; replace hx319_2 := cel HB hx319_2; replace hx319_3 := cel HB hx319_3; replace hx319_4 := cel HB hx319_4; replace p319 := eq_true p319; replace q319 := eq_true q319) | ((with_reducible refine gate_dst (N := 12) rfl ?_); refine box_event ?hg (N := 12) ?hd (cs := #[.string (⟨#[]⟩ : ByteArray), .int .i64 0, .int .i64 0, .int .i64 0, .int .i64 0]) (t := 61) ?hr ?_; (case hd => rfl); (case hg => rfl); (case hr => first | (go_simp; done) | (go_simp; rfl)); intro gb320 hg w79 hbox hb; have n0_ := Aside0.mk (Kd.R_below (rdl HO317) hb); have n1_ := Aside0.mk (below_step (bel HB) hb); have n2_ := Aside0.mk (hbox); have n3_ := Aside0.mk ((by rw [hg]; exact (below_size (bel HB)) : w.heap.size ≤ gb320)); have n4_ := Aside0.mk ((by rw [hg]; exact (below_size (bel HB)) : w.heap.size ≤ gb320)); clear HO317; clear HB; have HO317 := n0_; have HB := n1_; have BK320 := n2_; have GW320 := n3_; have GE320 := n4_; clear n0_ n1_ n2_ n3_ n4_; clear hb hbox hg; have hcz80_0 : w79.cell? ⟨gb320, 0, none⟩ = some (.string (⟨#[]⟩ : ByteArray)) := (blk_cell BK320.out 0).trans rfl; have hcz80_1 : w79.cell? ⟨gb320, 1, none⟩ = some (.int .i64 0) := (blk_cell BK320.out 1).trans rfl; have hcz80_2 : w79.cell? ⟨gb320, 2, none⟩ = some (.int .i64 0) := (blk_cell BK320.out 2).trans rfl; have hcz80_3 : w79.cell? ⟨gb320, 3, none⟩ = some (.int .i64 0) := (blk_cell BK320.out 3).trans rfl; have hcz80_4 : w79.cell? ⟨gb320, 4, none⟩ = some (.int .i64 0) := (blk_cell BK320.out 4).trans rfl; have hfz80_0 := blk_frozen BK320.out 0; have hfz80_1 := blk_frozen BK320.out 1; have hfz80_2 := blk_frozen BK320.out 2; have hfz80_3 := blk_frozen BK320.out 3; have hfz80_4 := blk_frozen BK320.out 4))
       go_ret
       exact ⟨_, by first | rfl | (simp [errW_none, errW_some] <;> rfl) | (simp only [← hji8]; first | rfl | (simp [errW_none, errW_some] <;> rfl)) | (simp [*, errW_none, errW_some] <;> rfl), by (with_reducible repeat (first | apply Kd.R_alloc | apply Kd.R_drewN | apply Kd.R_drew)); exact Kd.R_mono (Kd.R_far (p := ⟨gb320, 4, none⟩) (Kd.R_far (p := ⟨gb320, 3, none⟩) (Kd.R_far (p := ⟨gb320, 2, none⟩) (Kd.R_far (p := ⟨gb320, 1, none⟩) (Kd.R_far (p := ⟨gb320, 0, none⟩) (Kd.R_types HO317.out BK320.out (by decide)) (fun _ hk => hk.2) (.string ((rd_T61 l1 (ji8)).f0))) (fun _ hk => hk.2) (.int .i64 ((rd_T61 l1 (ji8)).f1))) (fun _ hk => hk.2) (.int .i64 ((rd_T61 l1 (ji8)).f2))) (fun _ hk => hk.2) (.int .i64 ((rd_T61 l1 (ji8)).f3))) (fun _ hk => hk.2) (.int .i64 ((rd_T61 l1 (ji8)).f4))) (fun _ hk => trivial), bel1 HB GE320⟩
    ·rw [if_neg c10] at H
     exact absurd H (by simp)
   ·rw [if_neg c9] at H
    exact absurd H (by simp)
  ·rw [if_neg c7] at H
   exact absurd H (by simp)
 ·rw [if_neg c6] at H
  exact absurd H (by simp)

end Go.Proofs.Ytgeakpogmjbjkaa.P
