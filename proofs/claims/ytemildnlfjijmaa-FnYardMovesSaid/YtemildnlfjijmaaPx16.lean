-- Written by a program of this session over the translation (a variant of the printer, see wip/gen); Lean checks it.
import Derived.Test.YtemildnlfjijmaaVC
import Derived.Test.YtemildnlfjijmaaPx0
import Derived.Test.YtemildnlfjijmaaPx15
namespace Go.Proofs.Ytemildnlfjijmaa.P
open Go.RowKit Go.Proofs.YtemildnlfjijmaaW.PrintWords Go.Proofs.YtemildnlfjijmaaW.PrintLast Go.Proofs.YtemildnlfjijmaaW.PrintMore
attribute [local go_sem] Go.Proofs.Ytemildnlfjijmaa.V.isSome_setCell max2_int min2_int max_two min_two max_three min_three max_four min_four
set_option linter.unusedVariables false
set_option linter.unusedSimpArgs false
/-! ### impl_ownYard: function 22 -/
def impl_ownYard.l0 : Nat → List (List Int) → Int → Int → List (List Int) → Option ((List (List Int)))
 | 0, _, _, _, _ => none
 | k + 1, x9, x10, x11, x438000 => if x11 < x10 then (if 0 ≤ x11 then (if x11 < (x9.length : Int) then ((slices_Clone_int_int.f (rd_L4 x9 x11)).bind fun t439 => (if x438000.length < 5864062014805 then (impl_ownYard.l0 k x9 x10 (wrap64 (x11 + 1)) (x438000 ++ [t439])) else (none))) else (none)) else (none)) else (some x438000)
def impl_ownYard.f (k : Nat) (l0_0 : List (List Int)) : Option ((List (List Int))) := impl_ownYard.l0 k l0_0 (l0_0.length : Int) 0 (([] : List (List Int)))
def impl_ownYard.T5 : Bool × List (List Nat × List Nat) := (true, [([], []), ([0], [0]), ([], []), ([2], [2]), ([3], [3]), ([1, 4, 3], [1, 4]), ([0, 1, 2, 3, 4, 5], []), ([6, 5, 5, 0, 1, 2, 3, 4, 5], [5, 6])])
def impl_ownYard.B5 : List Nat := [0, 1, 0, 4, 12, 31, 63, 127]
theorem impl_ownYard.tab5 : rtab .any (opsOf Try.f22 5) = impl_ownYard.T5 := by kernel_rfl
theorem impl_ownYard.bits5 : waitsOk impl_ownYard.T5.2 impl_ownYard.B5 = true := by kernel_rfl
set_option maxHeartbeats 8000000 in
set_option maxRecDepth 100000 in
theorem impl_ownYard.calls (k : Nat) (A0_0 : Option Addr) (c0_0 : Nat) (l0_0 : List (List Int)) (r : List (List Int)) (w : World) (hr0_0 : Kd.C (Kd.slice 3 (Kd.int .i64)) w A0_0 l0_0.length l0_0) (hc0_0 : l0_0.length ≤ c0_0) (h : impl_ownYard.f k l0_0 = some r) :
  Calls Try.prog 22 #[.agg #[.slice A0_0 l0_0.length c0_0]] w fun e w' => ∃ v0_ : Value, e = .returned (.agg #[v0_]) ∧ Kd.S (Kd.slice 3 (Kd.int .i64)) 30 w' w.heap.size (fun _ => True) v0_ r ∧ Below w.heap.size w w' := by
 have hu26 := Try.underlying26
 have HR0_0 := Aside0.mk hr0_0
 have HC0_0 := Aside0.mk hc0_0
 clear hr0_0 hc0_0
 have HB := Aside0.mk (Below.refl w.heap.size w)
 have H : (impl_ownYard.l0 k l0_0 (l0_0.length : Int) 0 (([] : List (List Int)))) = some r := h
 clear h
 obtain ⟨y434, hy434⟩ : ∃ y_ : List (List Int), y_ = (([] : List (List Int))) := ⟨_, rfl⟩
 replace H : (impl_ownYard.l0 k l0_0 (l0_0.length : Int) 0 y434) = some r := by (rw [hy434]; with_reducible exact H) 
 have Ny434 := Aside0.mk hy434
 clear hy434
 have H' := Aside0.mk H
 clear H
 go_enter Try.func22, Try.ntmps22
 go_wp2_with (first | ((with_reducible refine gate_dst (N := 1) rfl ?_); refine box_event ?hg (N := 1) ?hd (cs := #[.slice A0_0 l0_0.length c0_0]) (t := 26) ?hr ?_; (case hd | hg => rfl); (case hr => go_simp); intro gb432 hg w2 hbox hb; have BK432 := Aside0.mk (hbox); have GW432 := gsb (w := w) hg (bel HB); have GE432 := gsb (w := w) hg (bel HB); replace HB := Aside0.mk (below_step (bel HB) hb); clear hb hbox hg) | ((with_reducible refine gate_dst (N := 2) rfl ?_); refine box_event ?hg (N := 2) ?hd (cs := #[.slice none 0 0]) (t := 26) ?hr ?_; (case hd | hg => rfl); (case hr => go_simp); intro gb433 hg w3 hbox hb; have BK433 := Aside0.mk (hbox); have GW433 := gsb (w := w) hg (bel1 HB GE432); have GE433 := gsb (w := w) hg (bel1 HB GE432); replace HB := Aside0.mk (below_step (bel1 HB GE432) hb); have NB432_433 := nbl hg BK432; have NB433_432 := nbr hg BK432; replace BK432 := bkb BK432 hb; clear hb hbox hg) | ((with_reducible refine gate_dst (N := 6) rfl ?_); refine Kd.S_lit (Kd.slice 3 (Kd.int .i64)) _ 30 ?hg (N := 6) ?hd (xs := ([] : List (List Int))) (inner := []) (ok := fun _ => True) (okp := fun _ => True) ?hr ?hp (fun _ hk => hk) trivial (Below.refl _ _) (Nat.le_refl _) (by simp) ?_; (case hd | hg => rfl); (case hr => go_simp); (case hp => exact (Reps.none _ _)); intro v435 w4 ho5 hb hg_ hnew_; clear hg_ hnew_; (rw [← Ny434.out] at ho5 ); have HO436 := Aside0.mk (Kd.S_lower ho5 (below_size (bel2 HB GE432 GE433))); replace BK432 := bkb BK432 hb; replace BK433 := bkb BK433 hb; replace HB := Aside0.mk (below_step (bel2 HB GE432 GE433) hb); clear hb ho5; obtain ⟨Ao6, co6, eo6⟩ := Kd.S_slice HO436.out; subst eo6) | ((with_reducible refine gate_dst (N := 3) rfl ?_); refine box_event ?hg (N := 3) ?hd (cs := #[.slice none 0 0]) (t := 26) ?hr ?_; (case hd | hg => rfl); (case hr => go_simp); intro gb437 hg w7 hbox hb; replace HO436 := Aside0.mk (Kd.S_below (sdl HO436) hb); have BK437 := Aside0.mk (hbox); have GW437 := gsb (w := w) hg (bel2 HB GE432 GE433); have GE437 := gsb (w := w) hg (bel2 HB GE432 GE433); replace HB := Aside0.mk (below_step (bel2 HB GE432 GE433) hb); have NB432_437 := nbl hg BK432; have NB437_432 := nbr hg BK432; replace BK432 := bkb BK432 hb; have NB433_437 := nbl hg BK433; have NB437_433 := nbr hg BK433; replace BK433 := bkb BK433 hb; clear hb hbox hg; have hnb8 := NB437_432.out; have hnc8 := NB432_437.out; have hnb9 := NB437_433.out; have hnc9 := NB433_437.out; have hcz10_0 := bc BK437 0; have hfz10_0 := blk_frozen BK437.out 0; have hnb11 := NB432_433.out; have hnc11 := NB433_432.out; have hcz12_0 := bc BK432 0; have hfz12_0 := blk_frozen BK432.out 0))
 go_loopg [11] k (fun kq v11 w' => ∃ (x11_1 : Int) (x438000_1 : List (List Int)) (u438000 : Value), v11 = .int .i64 x11_1 ∧ Aside0 (impl_ownYard.l0 kq l0_0 (l0_0.length : Int) x11_1 x438000_1 = some r) ∧ Aside0 (kq ≤ k) ∧ Aside0 (Kd.S (Kd.slice 3 (Kd.int .i64)) 30 w' w.heap.size (fun _ => True) u438000 x438000_1) ∧ Aside0 (w'.heap[gb432]? = some (.cells #[(.slice A0_0 l0_0.length c0_0)] 26 (0, 0))) ∧ Aside0 (w'.heap[gb433]? = some (.cells #[(.slice none 0 0)] 26 (0, 0))) ∧ Aside0 (w'.heap[gb437]? = some (.cells #[u438000] 26 (0, 0))) ∧ Aside0 (Below w.heap.size w w'))
 case atStart => exact ⟨(0), (y434), (.slice Ao6 y434.length co6), (by rfl ), H', ⟨Nat.le_refl _⟩, ⟨by exact Kd.S_mono (Kd.S_far (p := ⟨gb437, 0, none⟩) (Kd.S_types HO436.out BK437.out (by decide)) (fun _ hk => hk.2) (.slice Ao6 y434.length co6)) (fun _ hk => trivial)⟩, ⟨by refine blk_far ?_ NB432_437.out _; exact BK432.out⟩, ⟨by refine blk_far ?_ NB433_437.out _; exact BK433.out⟩, ⟨by refine blk_put (cs := #[.slice none 0 0]) ?_ 0 _ rfl; exact BK437.out⟩, ⟨bel3 HB GE432 GE433 GE437⟩⟩
 clear H'
 try clear hcz10_0
 try clear hcz12_0
 try clear hfz10_0
 try clear hfz12_0
 obtain ⟨x11_1, x438000_1, u438000, rfl, HA, HK1, HO_438000, BK432, BK433, BK437, HB⟩ := hrel
 cases gk with
 | zero => exact absurd HA.out (by simp [impl_ownYard.l0])
 | succ k1 =>
  have H := HA.out
  clear HA
  simp only [impl_ownYard.l0] at H
  by_cases c13 : x11_1 < (l0_0.length : Int)
  rotate_left
  ·rw [if_neg c13] at H
   have c13b0 : decide (x11_1 < (l0_0.length : Int)) = false := decide_eq_false c13
   clear c13
   obtain rfl := Option.some.inj H
   have hnb24 := NB437_432.out
   have hnc24 := NB432_437.out
   have hnb25 := NB437_433.out
   have hnc25 := NB433_437.out
   have hcz26_0 := bc BK437 0
   have hfz26_0 := blk_frozen BK437.out 0
   obtain ⟨Ao27, co27, eo27⟩ := Kd.S_slice HO_438000.out
   subst eo27
   have hnb28 := NB433_432.out
   have hnc28 := NB432_433.out
   have hcz29_0 := bc BK433 0
   have hfz29_0 := blk_frozen BK433.out 0
   go_wp2
   refine bodyPost_ret (results_cell_row rfl _ _ gb433 26 #[.slice Ao27 x438000_1.length co27] (0, 0) _ rfl (blk_put BK433.out 0 _ rfl) Try.underlying26 rfl (by kernel_rfl)) rfl ?_
   exact ⟨_, by rfl , by exact Kd.S_mono (Kd.S_far (p := ⟨gb433, 0, none⟩) (Kd.S_types HO_438000.out BK433.out (by decide)) (fun _ hk => hk.2) (.slice Ao27 x438000_1.length co27)) (fun _ hk => trivial), bel3 HB GE432 GE433 GE437⟩
  rw [if_pos c13] at H
  have c13b0 : decide (x11_1 < (l0_0.length : Int)) = true := decide_eq_true c13
  clear c13
  by_cases c14 : 0 ≤ x11_1
  rotate_left
  ·rw [if_neg c14] at H
   exact absurd H (by simp)
  rw [if_pos c14] at H
  have c14b0 : decide (0 ≤ x11_1) = true := decide_eq_true c14
  clear c14
  by_cases c15 : x11_1 < (l0_0.length : Int)
  rotate_left
  ·rw [if_neg c15] at H
   exact absurd H (by simp)
  rw [if_pos c15] at H
  have c15b0 : decide (x11_1 < (l0_0.length : Int)) = true := decide_eq_true c15
  clear c15
  obtain ⟨t439, A16, H⟩ := bnd H
  try dsimp only at H
  by_cases c17 : x438000_1.length < 5864062014805
  rotate_left
  ·rw [if_neg c17] at H
   exact absurd H (by simp)
  rw [if_pos c17] at H
  have LMc17 := Aside0.mk c17
  clear c17
  obtain ⟨y442, hy442⟩ : ∃ y_ : List (List Int), y_ = (x438000_1 ++ [t439]) := ⟨_, rfl⟩
  replace H : (impl_ownYard.l0 k1 l0_0 (l0_0.length : Int) (wrap64 (x11_1 + 1)) y442) = some r := by (rw [hy442]; with_reducible exact H) 
  have Ny442 := Aside0.mk hy442
  clear hy442
  have H' := Aside0.mk H
  clear H
  have p438 : 0 ≤ (x11_1 : Int) := oda
  have q438 : x11_1 < (l0_0.length : Int) := oda
  obtain ⟨ad438, A438_0, c438_0, e438, hx438_0, hl438_0, hi438_0⟩ := at_L4 HR0_0.out x11_1 p438 q438
  cases e438
  replace hx438_0 := cel HB hx438_0
  have HR438_0 := Aside0.mk hi438_0
  have HC438_0 := Aside0.mk hl438_0
  clear hi438_0 hl438_0
  replace p438 := eq_true p438
  replace q438 := eq_true q438
  try go_wp2
  have n0_ := Aside0.mk (Kd.S_drew HO_438000.out)
  have n1_ := Aside0.mk (blk_drew BK432.out)
  have n2_ := Aside0.mk (blk_drew BK433.out)
  have n3_ := Aside0.mk (blk_drew BK437.out)
  have n4_ := Aside0.mk (below_drew1 HB.out)
  clear HO_438000 BK432 BK433 BK437 HB
  have HO_438000 := n0_
  have BK432 := n1_
  have BK433 := n2_
  have BK437 := n3_
  have HB := n4_
  clear n0_ n1_ n2_ n3_ n4_
  refine start_ (n := 8) (S := fun w' => w'.cell? ⟨gb437, 0, none⟩ = some (u438000)) (ds := [7]) #[false, false, false, false, false, false, false, false] (by kernel_rfl) rfl rfl ((blk_cell BK437.out 0).trans rfl) (fun hHeld => ?_); refine with_tabW impl_ownYard.tab5 impl_ownYard.bits5 (fun HT_ HW_ => ?_)
  generalize wr.drew = w18 at HO_438000 BK432 BK433 BK437 HB hHeld ⊢
  refine pu 0 (some 15) (bx 8 1) (h := ?_)
  refine pu 2 (some 17) (bx 8 5) (h := ?_)
  refine take_ (i := 1) (N := some 16) (v := ?_) (a' := ?_) #[true, true, true, false, false, false, false, false] rfl rfl (take_ofW HT_.out HW_.out (by kernel_rfl)) (fun _ _ _ h => h) (Or.inl ⟨by rfl, ?_⟩) hHeld ?_ ?_
  rotate_left
  ·intro w' s0
   go_simp
   with_reducible rfl
  rotate_left
  ·simp only [putS]
   rfl
  refine on 3 (some 18) (bx 8 15) (h := fun K hK => ?_)
  refine goes_ Try.func40 (by kernel_rfl) rfl #[.slice A438_0 (rd_L4 l0_0 x11_1).length c438_0] (by rfl) rfl rfl gmp ?_
  with_reducible refine (slices_Clone_int_int.calls _ _ (rd_L4 l0_0 x11_1) t439 _ ?side1 ?side2 A16.out).mono ?_
  (case side1 => exact cdl (Kd.C_below HR438_0.out HB.out))
  (case side2 => exact HC438_0.out)
  rintro e w19 ⟨v440, rfl, ho0, hb⟩
  refine ⟨_, rfl, ?_⟩
  have n0_ := Aside0.mk (Kd.S_elder' (sdl HO_438000) (Kd.R_base ho0) hb)
  have n1_ := Aside0.mk (Kd.R_lower ho0 (below_size (bel3 HB GE432 GE433 GE437)))
  have n2_ := bkb BK432 hb
  have n3_ := bkb BK433 hb
  have n4_ := bkb BK437 hb
  have n5_ := Aside0.mk (below_step (bel3 HB GE432 GE433 GE437) hb)
  clear HO_438000 BK432 BK433 BK437 HB
  have HO_438000 := n0_
  have HO441 := n1_
  have BK432 := n2_
  have BK433 := n3_
  have BK437 := n4_
  have HB := n5_
  clear n0_ n1_ n2_ n3_ n4_ n5_
  (try clear hb)
  (try clear ho0)
  obtain ⟨Ao21, co21, eo21⟩ := Kd.R_slice HO441.out
  (subst eo21 )
  refine hK.out _ _ ((blk_cell BK437.out 0).trans rfl) (fun hHeld => ?_)
  clear hK K
  refine nm 18 (h := ?_)
  refine on 4 (some 19) (bx 8 31) (h := fun K hK => ?_)
  refine value_ (w1 := ?_) (v := ?_) (by rfl) rfl ?_ ?_
  rotate_left 2
  ·go_simp
   constructor
   ·rfl
   rfl
  refine hK.out _ _ ((blk_cell (blk_alloc BK437.out _) 0).trans rfl) (fun hHeld => ?_)
  clear hK K
  refine nm 19 (h := ?_)
  refine on 5 (some 20) (bx 8 63) (h := fun K hK => ?_)
  refine Kd.S_append_step (Kd.slice 3 (Kd.int .i64)) (w0 := w) w.heap.size (by rfl) (.tmp 16) (.tmp 19) 24 30 (.slice none 0 0) 24 rfl Try.underlying24 info30 rfl (by decide) (by omega) u438000 x438000_1 t439 [.slice Ao21 t439.length co21] (fun _ => True) (fun k_ => some k_ = (.slice Ao21 t439.length co21 : Value).ownBlock) rfl rfl ?aP (fun k_ hk_ => ((Kd.R_mono (ok' := fun k_ => ((fun _ => True)) k_ ∧ some k_ ≠ (u438000 : Value).ownBlock) (Kd.R_apart' (HO441.out) (Kd.S_typed HO_438000.out) (by decide)) (fun k_ hk => ⟨trivial, hk.2⟩))).1 k_ hk_.symm) ?aF ?aO ?aB ?aS ?aL ?_
  (case aP => exact Kd.M_row (Kd.R_mono (Kd.R_tight rfl (Kd.R_mono (ok' := fun k_ => ((fun _ => True)) k_ ∧ some k_ ≠ (u438000 : Value).ownBlock) (Kd.R_apart' (HO441.out) (Kd.S_typed HO_438000.out) (by decide)) (fun k_ hk => ⟨trivial, hk.2⟩))) (fun _ h_ => h_)))
  (case aB => exact (bel3 HB GE432 GE433 GE437))
  (case aF => exact (fun _ _ => trivial))
  (case aO => exact (by exact Kd.S_mono HO_438000.out (fun k_ hk => ⟨trivial, fun e_ => hk.2 e_⟩)))
  (case aS => exact (below_size (bel3 HB GE432 GE433 GE437)))
  (case aL => have := LMc17.out; omega)
  intro v443 w20 ho hb hg hat
  rw [← Ny442.out] at ho
  have n0_ := Aside0.mk (blk_grown (g := gb432) (o := .cells #[.slice (some ad438) l0_0.length c0_0] 26 (0, 0)) (bkl BK432) hg (Kd.S_ne HO_438000.out BK432.out (by decide)))
  have n1_ := Aside0.mk (blk_grown (g := gb433) (o := .cells #[.slice none 0 0] 26 (0, 0)) (bkl BK433) hg (Kd.S_ne HO_438000.out BK433.out (by decide)))
  have n2_ := Aside0.mk (blk_grown (g := gb437) (o := .cells #[u438000] 26 (0, 0)) (bkl BK437) hg (Kd.S_ne HO_438000.out BK437.out (by decide)))
  have n3_ := Aside0.mk (hb)
  have n4_ := Aside0.mk (ho)
  clear BK432 BK433 BK437 HB HO_438000 HO441
  have BK432 := n0_
  have BK433 := n1_
  have BK437 := n2_
  have HB := n3_
  have HO444 := n4_
  clear n0_ n1_ n2_ n3_ n4_ ho hb hg hat
  obtain ⟨Ao22, co22, eo22⟩ := Kd.S_slice HO444.out
  (subst eo22 )
  refine hK.out _ _ ((blk_cell BK437.out 0).trans rfl) (fun hHeld => ?_)
  clear hK K
  refine nm 20 (h := ?_)
  refine pu 6 (some 21) (bx 8 127) (h := ?_)
  refine last_ (i := 7) (N := none) #[true, true, true, true, true, true, true, true] rfl rfl (one_of HT_.out (by kernel_rfl)) (by decide) (fun K hK => ?_)
  have hs23 := bc BK437 0
  have hfs23 := blk_frozen BK437.out 0
  have hns23_0 := NB432_437.out
  have hns23_1 := NB433_437.out
  have hms23_0 := NB437_432.out
  have hms23_1 := NB437_433.out
  refine skip_ (w1 := ?_) (by rfl) rfl ?_ ?_
  rotate_left
  ·go_simp
   rfl
  refine hK.out _ _ ?_
  clear hK K
  refine done_ (done_of HT_.out (by kernel_rfl)) ?_
  try go_wp2
  go_roundg k1
  case measure => have := HK1.out; omega
  case rel => exact ⟨(wrap64 (x11_1 + 1)), (y442), (.slice Ao22 y442.length co22), (by rfl ), H', ⟨by have := HK1.out; omega⟩, ⟨by exact Kd.S_mono (Kd.S_far (p := ⟨gb437, 0, none⟩) (Kd.S_types HO444.out BK437.out (by decide)) (fun _ hk => hk.2) (.slice Ao22 y442.length co22)) (fun _ hk => trivial)⟩, ⟨by refine blk_far ?_ NB432_437.out _; exact BK432.out⟩, ⟨by refine blk_far ?_ NB433_437.out _; exact BK433.out⟩, ⟨by refine blk_put (cs := #[u438000]) ?_ 0 _ rfl; exact BK437.out⟩, ⟨bel3 HB GE432 GE433 GE437⟩⟩
/-! ### impl_brokenRules: function 23 -/
mutual
def impl_brokenRules.j0 : Nat → Int → Int → List Int → ByteArray → Int → Int → Int → Int → ByteArray → Int → Int → Int → Int → Option (List Int)
 | 0, _, _, _, _, _, _, _, _, _, _, _, _, _ => none
 | k + 1, x2, x3, x11, x451000, x451001, x451002, x451003, x451004, x454000, x454001, x454002, x454003, x454004 => if x451001 = x454001 then (impl_brokenRules.j1 k x2 x3 x11 x451000 x451001 x451002 x451003 x451004) else (if x11.length < 17592186044416 then (impl_brokenRules.j1 k x2 x3 (x11 ++ [2]) x451000 x451001 x451002 x451003 x451004) else (none))
def impl_brokenRules.j1 : Nat → Int → Int → List Int → ByteArray → Int → Int → Int → Int → Option (List Int)
 | 0, _, _, _, _, _, _, _, _ => none
 | k + 1, x2, x3, x11, x451000, x451001, x451002, x451003, x451004 => if x451003 = 3 then (if x11.length < 17592186044416 then ((some (x11 ++ [3] : List Int)).bind fun y460 => (if x451003 = 2 then (if x3 ≥ x2 then (if y460.length < 17592186044416 then (some (y460 ++ [4])) else (none)) else (some y460)) else (some y460))) else (none)) else (if x451003 = 2 then (if x3 ≥ x2 then (if x11.length < 17592186044416 then (some (x11 ++ [4])) else (none)) else (some x11)) else (some x11))
end
def impl_brokenRules.f (k : Nat) (l0 : List Int) (l1 : List (S71)) (a2 : Int) (a3 : Int) (a4 : Int) : Option (List Int) := (some (([] : List Int) : List Int)).bind fun y445 => (if 0 ≤ a4 then (if a4 < (l0.length : Int) then (if 0 ≤ (wrap64 ((rd l0 a4) - 1)) then (if (wrap64 ((rd l0 a4) - 1)) < (l1.length : Int) then (if a4 > 0 then (if 0 ≤ (wrap64 (a4 - 1)) then (if (wrap64 (a4 - 1)) < (l0.length : Int) then (if 0 ≤ (wrap64 ((rd l0 (wrap64 (a4 - 1))) - 1)) then (if (wrap64 ((rd l0 (wrap64 (a4 - 1))) - 1)) < (l1.length : Int) then (if ((rd_T71 l1 (wrap64 ((rd l0 a4) - 1))).f2) > ((rd_T71 l1 (wrap64 ((rd l0 (wrap64 (a4 - 1))) - 1))).f2) then (if y445.length < 17592186044416 then (impl_brokenRules.j0 k a2 a3 (y445 ++ [1]) ((rd_T71 l1 (wrap64 ((rd l0 a4) - 1))).f0) ((rd_T71 l1 (wrap64 ((rd l0 a4) - 1))).f1) ((rd_T71 l1 (wrap64 ((rd l0 a4) - 1))).f2) ((rd_T71 l1 (wrap64 ((rd l0 a4) - 1))).f3) ((rd_T71 l1 (wrap64 ((rd l0 a4) - 1))).f4) ((rd_T71 l1 (wrap64 ((rd l0 (wrap64 (a4 - 1))) - 1))).f0) ((rd_T71 l1 (wrap64 ((rd l0 (wrap64 (a4 - 1))) - 1))).f1) ((rd_T71 l1 (wrap64 ((rd l0 (wrap64 (a4 - 1))) - 1))).f2) ((rd_T71 l1 (wrap64 ((rd l0 (wrap64 (a4 - 1))) - 1))).f3) ((rd_T71 l1 (wrap64 ((rd l0 (wrap64 (a4 - 1))) - 1))).f4)) else (none)) else (impl_brokenRules.j0 k a2 a3 y445 ((rd_T71 l1 (wrap64 ((rd l0 a4) - 1))).f0) ((rd_T71 l1 (wrap64 ((rd l0 a4) - 1))).f1) ((rd_T71 l1 (wrap64 ((rd l0 a4) - 1))).f2) ((rd_T71 l1 (wrap64 ((rd l0 a4) - 1))).f3) ((rd_T71 l1 (wrap64 ((rd l0 a4) - 1))).f4) ((rd_T71 l1 (wrap64 ((rd l0 (wrap64 (a4 - 1))) - 1))).f0) ((rd_T71 l1 (wrap64 ((rd l0 (wrap64 (a4 - 1))) - 1))).f1) ((rd_T71 l1 (wrap64 ((rd l0 (wrap64 (a4 - 1))) - 1))).f2) ((rd_T71 l1 (wrap64 ((rd l0 (wrap64 (a4 - 1))) - 1))).f3) ((rd_T71 l1 (wrap64 ((rd l0 (wrap64 (a4 - 1))) - 1))).f4))) else (none)) else (none)) else (none)) else (none)) else (if ((rd_T71 l1 (wrap64 ((rd l0 a4) - 1))).f3) = 2 then (if a3 ≥ a2 then (if y445.length < 17592186044416 then (some (y445 ++ [4])) else (none)) else (some y445)) else (some y445))) else (none)) else (none)) else (none)) else (none))
set_option maxHeartbeats 8000000 in
set_option maxRecDepth 100000 in
theorem impl_brokenRules.calls (k : Nat) (A0 : Option Addr) (c0 : Nat) (l0 : List Int) (A1 : Option Addr) (c1 : Nat) (l1 : List (S71)) (a2 : Int) (a3 : Int) (a4 : Int) (r : List Int) (w : World) (hr0 : Kd.C (Kd.int .i64) w A0 l0.length l0) (hc0 : l0.length ≤ c0) (hr1 : Kd.C k71 w A1 l1.length l1) (hc1 : l1.length ≤ c1) (h : impl_brokenRules.f k l0 l1 a2 a3 a4 = some r) :
  Calls Try.prog 23 #[.slice A0 l0.length c0, .slice A1 l1.length c1, .int .i64 a2, .int .i64 a3, .int .i64 a4] w fun e w' => ∃ v0_ : Value, e = .returned (v0_) ∧ Kd.R (Kd.int .i64) 3 w' w.heap.size (fun _ => True) v0_ r ∧ Below w.heap.size w w' := by
 have hu71 := Try.underlying71
 have HR0 := Aside0.mk hr0
 have HC0 := Aside0.mk hc0
 clear hr0 hc0
 have HR1 := Aside0.mk hr1
 have HC1 := Aside0.mk hc1
 clear hr1 hc1
 have HB := Aside0.mk (Below.refl w.heap.size w)
 have H : ((some (([] : List Int) : List Int)).bind fun y445 => (if 0 ≤ a4 then (if a4 < (l0.length : Int) then (if 0 ≤ (wrap64 ((rd l0 a4) - 1)) then (if (wrap64 ((rd l0 a4) - 1)) < (l1.length : Int) then (if a4 > 0 then (if 0 ≤ (wrap64 (a4 - 1)) then (if (wrap64 (a4 - 1)) < (l0.length : Int) then (if 0 ≤ (wrap64 ((rd l0 (wrap64 (a4 - 1))) - 1)) then (if (wrap64 ((rd l0 (wrap64 (a4 - 1))) - 1)) < (l1.length : Int) then (if ((rd_T71 l1 (wrap64 ((rd l0 a4) - 1))).f2) > ((rd_T71 l1 (wrap64 ((rd l0 (wrap64 (a4 - 1))) - 1))).f2) then (if y445.length < 17592186044416 then (impl_brokenRules.j0 k a2 a3 (y445 ++ [1]) ((rd_T71 l1 (wrap64 ((rd l0 a4) - 1))).f0) ((rd_T71 l1 (wrap64 ((rd l0 a4) - 1))).f1) ((rd_T71 l1 (wrap64 ((rd l0 a4) - 1))).f2) ((rd_T71 l1 (wrap64 ((rd l0 a4) - 1))).f3) ((rd_T71 l1 (wrap64 ((rd l0 a4) - 1))).f4) ((rd_T71 l1 (wrap64 ((rd l0 (wrap64 (a4 - 1))) - 1))).f0) ((rd_T71 l1 (wrap64 ((rd l0 (wrap64 (a4 - 1))) - 1))).f1) ((rd_T71 l1 (wrap64 ((rd l0 (wrap64 (a4 - 1))) - 1))).f2) ((rd_T71 l1 (wrap64 ((rd l0 (wrap64 (a4 - 1))) - 1))).f3) ((rd_T71 l1 (wrap64 ((rd l0 (wrap64 (a4 - 1))) - 1))).f4)) else (none)) else (impl_brokenRules.j0 k a2 a3 y445 ((rd_T71 l1 (wrap64 ((rd l0 a4) - 1))).f0) ((rd_T71 l1 (wrap64 ((rd l0 a4) - 1))).f1) ((rd_T71 l1 (wrap64 ((rd l0 a4) - 1))).f2) ((rd_T71 l1 (wrap64 ((rd l0 a4) - 1))).f3) ((rd_T71 l1 (wrap64 ((rd l0 a4) - 1))).f4) ((rd_T71 l1 (wrap64 ((rd l0 (wrap64 (a4 - 1))) - 1))).f0) ((rd_T71 l1 (wrap64 ((rd l0 (wrap64 (a4 - 1))) - 1))).f1) ((rd_T71 l1 (wrap64 ((rd l0 (wrap64 (a4 - 1))) - 1))).f2) ((rd_T71 l1 (wrap64 ((rd l0 (wrap64 (a4 - 1))) - 1))).f3) ((rd_T71 l1 (wrap64 ((rd l0 (wrap64 (a4 - 1))) - 1))).f4))) else (none)) else (none)) else (none)) else (none)) else (if ((rd_T71 l1 (wrap64 ((rd l0 a4) - 1))).f3) = 2 then (if a3 ≥ a2 then (if y445.length < 17592186044416 then (some (y445 ++ [4])) else (none)) else (some y445)) else (some y445))) else (none)) else (none)) else (none)) else (none))) = some r := h
 clear h
 obtain ⟨y445, hy445⟩ : ∃ y_ : List Int, y_ = (([] : List Int)) := ⟨_, rfl⟩
 replace H : (if 0 ≤ a4 then (if a4 < (l0.length : Int) then (if 0 ≤ (wrap64 ((rd l0 a4) - 1)) then (if (wrap64 ((rd l0 a4) - 1)) < (l1.length : Int) then (if a4 > 0 then (if 0 ≤ (wrap64 (a4 - 1)) then (if (wrap64 (a4 - 1)) < (l0.length : Int) then (if 0 ≤ (wrap64 ((rd l0 (wrap64 (a4 - 1))) - 1)) then (if (wrap64 ((rd l0 (wrap64 (a4 - 1))) - 1)) < (l1.length : Int) then (if ((rd_T71 l1 (wrap64 ((rd l0 a4) - 1))).f2) > ((rd_T71 l1 (wrap64 ((rd l0 (wrap64 (a4 - 1))) - 1))).f2) then (if y445.length < 17592186044416 then (impl_brokenRules.j0 k a2 a3 (y445 ++ [1]) ((rd_T71 l1 (wrap64 ((rd l0 a4) - 1))).f0) ((rd_T71 l1 (wrap64 ((rd l0 a4) - 1))).f1) ((rd_T71 l1 (wrap64 ((rd l0 a4) - 1))).f2) ((rd_T71 l1 (wrap64 ((rd l0 a4) - 1))).f3) ((rd_T71 l1 (wrap64 ((rd l0 a4) - 1))).f4) ((rd_T71 l1 (wrap64 ((rd l0 (wrap64 (a4 - 1))) - 1))).f0) ((rd_T71 l1 (wrap64 ((rd l0 (wrap64 (a4 - 1))) - 1))).f1) ((rd_T71 l1 (wrap64 ((rd l0 (wrap64 (a4 - 1))) - 1))).f2) ((rd_T71 l1 (wrap64 ((rd l0 (wrap64 (a4 - 1))) - 1))).f3) ((rd_T71 l1 (wrap64 ((rd l0 (wrap64 (a4 - 1))) - 1))).f4)) else (none)) else (impl_brokenRules.j0 k a2 a3 y445 ((rd_T71 l1 (wrap64 ((rd l0 a4) - 1))).f0) ((rd_T71 l1 (wrap64 ((rd l0 a4) - 1))).f1) ((rd_T71 l1 (wrap64 ((rd l0 a4) - 1))).f2) ((rd_T71 l1 (wrap64 ((rd l0 a4) - 1))).f3) ((rd_T71 l1 (wrap64 ((rd l0 a4) - 1))).f4) ((rd_T71 l1 (wrap64 ((rd l0 (wrap64 (a4 - 1))) - 1))).f0) ((rd_T71 l1 (wrap64 ((rd l0 (wrap64 (a4 - 1))) - 1))).f1) ((rd_T71 l1 (wrap64 ((rd l0 (wrap64 (a4 - 1))) - 1))).f2) ((rd_T71 l1 (wrap64 ((rd l0 (wrap64 (a4 - 1))) - 1))).f3) ((rd_T71 l1 (wrap64 ((rd l0 (wrap64 (a4 - 1))) - 1))).f4))) else (none)) else (none)) else (none)) else (none)) else (if ((rd_T71 l1 (wrap64 ((rd l0 a4) - 1))).f3) = 2 then (if a3 ≥ a2 then (if y445.length < 17592186044416 then (some (y445 ++ [4])) else (none)) else (some y445)) else (some y445))) else (none)) else (none)) else (none)) else (none)) = some r := by (have H2_ := (Option.bind_some _ _).symm.trans H; rw [hy445]; with_reducible exact H2_) 
 have Ny445 := Aside0.mk hy445
 clear hy445
 by_cases c6 : 0 ≤ a4
 rotate_left
 ·rw [if_neg c6] at H
  exact absurd H (by simp)
 rw [if_pos c6] at H
 have c6b0 : decide (0 ≤ a4) = true := decide_eq_true c6
 clear c6
 by_cases c7 : a4 < (l0.length : Int)
 rotate_left
 ·rw [if_neg c7] at H
  exact absurd H (by simp)
 rw [if_pos c7] at H
 have c7b0 : decide (a4 < (l0.length : Int)) = true := decide_eq_true c7
 clear c7
 obtain ⟨ji8, hji8⟩ : ∃ j_ : Int, (wrap64 ((rd l0 a4) - 1)) = j_ := ⟨_, rfl⟩
 replace H : (if 0 ≤ (ji8) then (if (ji8) < (l1.length : Int) then (if a4 > 0 then (if 0 ≤ (wrap64 (a4 - 1)) then (if (wrap64 (a4 - 1)) < (l0.length : Int) then (if 0 ≤ (wrap64 ((rd l0 (wrap64 (a4 - 1))) - 1)) then (if (wrap64 ((rd l0 (wrap64 (a4 - 1))) - 1)) < (l1.length : Int) then (if ((rd_T71 l1 (ji8)).f2) > ((rd_T71 l1 (wrap64 ((rd l0 (wrap64 (a4 - 1))) - 1))).f2) then (if y445.length < 17592186044416 then (impl_brokenRules.j0 k a2 a3 (y445 ++ [1]) ((rd_T71 l1 (ji8)).f0) ((rd_T71 l1 (ji8)).f1) ((rd_T71 l1 (ji8)).f2) ((rd_T71 l1 (ji8)).f3) ((rd_T71 l1 (ji8)).f4) ((rd_T71 l1 (wrap64 ((rd l0 (wrap64 (a4 - 1))) - 1))).f0) ((rd_T71 l1 (wrap64 ((rd l0 (wrap64 (a4 - 1))) - 1))).f1) ((rd_T71 l1 (wrap64 ((rd l0 (wrap64 (a4 - 1))) - 1))).f2) ((rd_T71 l1 (wrap64 ((rd l0 (wrap64 (a4 - 1))) - 1))).f3) ((rd_T71 l1 (wrap64 ((rd l0 (wrap64 (a4 - 1))) - 1))).f4)) else (none)) else (impl_brokenRules.j0 k a2 a3 y445 ((rd_T71 l1 (ji8)).f0) ((rd_T71 l1 (ji8)).f1) ((rd_T71 l1 (ji8)).f2) ((rd_T71 l1 (ji8)).f3) ((rd_T71 l1 (ji8)).f4) ((rd_T71 l1 (wrap64 ((rd l0 (wrap64 (a4 - 1))) - 1))).f0) ((rd_T71 l1 (wrap64 ((rd l0 (wrap64 (a4 - 1))) - 1))).f1) ((rd_T71 l1 (wrap64 ((rd l0 (wrap64 (a4 - 1))) - 1))).f2) ((rd_T71 l1 (wrap64 ((rd l0 (wrap64 (a4 - 1))) - 1))).f3) ((rd_T71 l1 (wrap64 ((rd l0 (wrap64 (a4 - 1))) - 1))).f4))) else (none)) else (none)) else (none)) else (none)) else (if ((rd_T71 l1 (ji8)).f3) = 2 then (if a3 ≥ a2 then (if y445.length < 17592186044416 then (some (y445 ++ [4])) else (none)) else (some y445)) else (some y445))) else (none)) else (none)) = some r := by (rw [hji8] at H; exact H) 
 have hji8w : (IntKind.i64.wrap ((rd l0 a4) - 1)) = ji8 := (i64_w _).trans hji8
 by_cases c9 : 0 ≤ (ji8)
 rotate_left
 ·rw [if_neg c9] at H
  exact absurd H (by simp)
 rw [if_pos c9] at H
 have c9b0 : decide (0 ≤ (ji8)) = true := decide_eq_true c9
 clear c9
 by_cases c10 : (ji8) < (l1.length : Int)
 rotate_left
 ·rw [if_neg c10] at H
  exact absurd H (by simp)
 rw [if_pos c10] at H
 have c10b0 : decide ((ji8) < (l1.length : Int)) = true := decide_eq_true c10
 clear c10
 by_cases c11 : a4 > 0
 rotate_left
 ·rw [if_neg c11] at H
  have c11b0 : decide (0 < a4) = false := decide_eq_false c11
  clear c11
  by_cases c65 : ((rd_T71 l1 (ji8)).f3) = 2
  rotate_left
  ·rw [if_neg c65] at H
   have c65b0 : (((rd_T71 l1 (ji8)).f3) == 2) = false := beq_eq_false_iff_ne.mpr c65
   have c65b1 : (((rd_T71 l1 (ji8)).f3) != 2) = true := bne_iff_ne.mpr c65
   obtain rfl := Option.some.inj H
   go_enter Try.func23, Try.ntmps23
   go_wp2_with (first | ((with_reducible refine gate_dst (N := 14) rfl ?_); refine Kd.R_lit (Kd.int .i64) _ 3 ?hg (N := 14) ?hd (xs := ([] : List Int)) (inner := []) (ok := fun _ => True) (okp := fun _ => True) ?hr ?hp (fun _ hk => hk) trivial (Below.refl _ _) (Nat.le_refl _) (by simp) ?_; (case hd | hg => rfl); (case hr => go_simp); (case hp => exact (Reps.none _ _)); intro v446 w77 ho78 hb hg_ hnew_; clear hg_ hnew_; (rw [← Ny445.out] at ho78 ); have HO447 := Aside0.mk (Kd.R_lower ho78 (below_size (bel HB))); replace HB := Aside0.mk (below_step (bel HB) hb); clear hb ho78; have p448 : 0 ≤ (a4 : Int) := oda; have q448 : a4 < (l0.length : Int) := oda; obtain ⟨ad448, e448, hx448_0⟩ := Kd.at_int HR0.out a4 p448 q448; cases e448; replace hx448_0 := cel HB hx448_0; replace p448 := eq_true p448; replace q448 := eq_true q448; have p449 : 0 ≤ ((ji8) : Int) := oda; have q449 : (ji8) < (l1.length : Int) := oda; obtain ⟨ad449, e449, hx449_0, hx449_1, hx449_2, hx449_3, hx449_4⟩ := at_T71 HR1.out (ji8) p449 q449; cases e449; replace hx449_0 := cel HB hx449_0; replace hx449_1 := cel HB hx449_1; replace hx449_2 := cel HB hx449_2; replace hx449_3 := cel HB hx449_3; replace hx449_4 := cel HB hx449_4; replace p449 := eq_true p449; replace q449 := eq_true q449) | ((with_reducible refine gate_dst (N := 12) rfl ?_); refine box_event ?hg (N := 12) ?hd (cs := #[.string (⟨#[]⟩ : ByteArray), .int .i64 0, .int .i64 0, .int .i64 0, .int .i64 0]) (t := 71) ?hr ?_; (case hd | hg => rfl); (case hr => go_simp); intro gb450 hg w79 hbox hb; replace HO447 := Aside0.mk (Kd.R_below (rdl HO447) hb); have BK450 := Aside0.mk (hbox); have GW450 := gsb (w := w) hg (bel HB); have GE450 := gsb (w := w) hg (bel HB); replace HB := Aside0.mk (below_step (bel HB) hb); clear hb hbox hg; obtain ⟨_, _, _, _, _, _, _, _, _, _⟩ := bf5 BK450))
   go_ret
   exact ⟨_, by rfl , by exact Kd.R_mono (Kd.R_far (p := ⟨gb450, 4, none⟩) (Kd.R_far (p := ⟨gb450, 3, none⟩) (Kd.R_far (p := ⟨gb450, 2, none⟩) (Kd.R_far (p := ⟨gb450, 1, none⟩) (Kd.R_far (p := ⟨gb450, 0, none⟩) (Kd.R_types HO447.out BK450.out (by decide)) (fun _ hk => hk.2) (.string ((rd_T71 l1 (ji8)).f0))) (fun _ hk => hk.2) (.int .i64 ((rd_T71 l1 (ji8)).f1))) (fun _ hk => hk.2) (.int .i64 ((rd_T71 l1 (ji8)).f2))) (fun _ hk => hk.2) (.int .i64 ((rd_T71 l1 (ji8)).f3))) (fun _ hk => hk.2) (.int .i64 ((rd_T71 l1 (ji8)).f4))) (fun _ hk => trivial), bel1 HB GE450⟩
  rw [if_pos c65] at H
  have c65b0 : (((rd_T71 l1 (ji8)).f3) == 2) = true := beq_iff_eq.mpr c65
  have c65b1 : (((rd_T71 l1 (ji8)).f3) != 2) = false := bne_eq_false_iff_eq.mpr c65
  clear c65
  by_cases c66 : a3 ≥ a2
  rotate_left
  ·rw [if_neg c66] at H
   have c66b0 : decide (a2 ≤ a3) = false := decide_eq_false c66
   clear c66
   obtain rfl := Option.some.inj H
   go_enter Try.func23, Try.ntmps23
   go_wp2_with (first | ((with_reducible refine gate_dst (N := 14) rfl ?_); refine Kd.R_lit (Kd.int .i64) _ 3 ?hg (N := 14) ?hd (xs := ([] : List Int)) (inner := []) (ok := fun _ => True) (okp := fun _ => True) ?hr ?hp (fun _ hk => hk) trivial (Below.refl _ _) (Nat.le_refl _) (by simp) ?_; (case hd | hg => rfl); (case hr => go_simp); (case hp => exact (Reps.none _ _)); intro v446 w73 ho74 hb hg_ hnew_; clear hg_ hnew_; (rw [← Ny445.out] at ho74 ); have HO447 := Aside0.mk (Kd.R_lower ho74 (below_size (bel HB))); replace HB := Aside0.mk (below_step (bel HB) hb); clear hb ho74; have p448 : 0 ≤ (a4 : Int) := oda; have q448 : a4 < (l0.length : Int) := oda; obtain ⟨ad448, e448, hx448_0⟩ := Kd.at_int HR0.out a4 p448 q448; cases e448; replace hx448_0 := cel HB hx448_0; replace p448 := eq_true p448; replace q448 := eq_true q448; have p449 : 0 ≤ ((ji8) : Int) := oda; have q449 : (ji8) < (l1.length : Int) := oda; obtain ⟨ad449, e449, hx449_0, hx449_1, hx449_2, hx449_3, hx449_4⟩ := at_T71 HR1.out (ji8) p449 q449; cases e449; replace hx449_0 := cel HB hx449_0; replace hx449_1 := cel HB hx449_1; replace hx449_2 := cel HB hx449_2; replace hx449_3 := cel HB hx449_3; replace hx449_4 := cel HB hx449_4; replace p449 := eq_true p449; replace q449 := eq_true q449) | ((with_reducible refine gate_dst (N := 12) rfl ?_); refine box_event ?hg (N := 12) ?hd (cs := #[.string (⟨#[]⟩ : ByteArray), .int .i64 0, .int .i64 0, .int .i64 0, .int .i64 0]) (t := 71) ?hr ?_; (case hd | hg => rfl); (case hr => go_simp); intro gb450 hg w75 hbox hb; replace HO447 := Aside0.mk (Kd.R_below (rdl HO447) hb); have BK450 := Aside0.mk (hbox); have GW450 := gsb (w := w) hg (bel HB); have GE450 := gsb (w := w) hg (bel HB); replace HB := Aside0.mk (below_step (bel HB) hb); clear hb hbox hg; obtain ⟨_, _, _, _, _, _, _, _, _, _⟩ := bf5 BK450))
   go_ret
   exact ⟨_, by rfl , by exact Kd.R_mono (Kd.R_far (p := ⟨gb450, 4, none⟩) (Kd.R_far (p := ⟨gb450, 3, none⟩) (Kd.R_far (p := ⟨gb450, 2, none⟩) (Kd.R_far (p := ⟨gb450, 1, none⟩) (Kd.R_far (p := ⟨gb450, 0, none⟩) (Kd.R_types HO447.out BK450.out (by decide)) (fun _ hk => hk.2) (.string ((rd_T71 l1 (ji8)).f0))) (fun _ hk => hk.2) (.int .i64 ((rd_T71 l1 (ji8)).f1))) (fun _ hk => hk.2) (.int .i64 ((rd_T71 l1 (ji8)).f2))) (fun _ hk => hk.2) (.int .i64 ((rd_T71 l1 (ji8)).f3))) (fun _ hk => hk.2) (.int .i64 ((rd_T71 l1 (ji8)).f4))) (fun _ hk => trivial), bel1 HB GE450⟩
  rw [if_pos c66] at H
  have c66b0 : decide (a2 ≤ a3) = true := decide_eq_true c66
  clear c66
  by_cases c67 : y445.length < 17592186044416
  rotate_left
  ·rw [if_neg c67] at H
   exact absurd H (by simp)
  rw [if_pos c67] at H
  have LMc67 := Aside0.mk c67
  clear c67
  obtain ⟨y469, hy469⟩ : ∃ y_ : List Int, y_ = (y445 ++ [4]) := ⟨_, rfl⟩
  replace H : (some y469) = some r := by (rw [hy469]; with_reducible exact H) 
  have Ny469 := Aside0.mk hy469
  clear hy469
  obtain rfl := Option.some.inj H
  go_enter Try.func23, Try.ntmps23
  go_wp2_with (first | ((with_reducible refine gate_dst (N := 14) rfl ?_); refine Kd.R_lit (Kd.int .i64) _ 3 ?hg (N := 14) ?hd (xs := ([] : List Int)) (inner := []) (ok := fun _ => True) (okp := fun _ => True) ?hr ?hp (fun _ hk => hk) trivial (Below.refl _ _) (Nat.le_refl _) (by simp) ?_; (case hd | hg => rfl); (case hr => go_simp); (case hp => exact (Reps.none _ _)); intro v446 w68 ho69 hb hg_ hnew_; clear hg_ hnew_; (rw [← Ny445.out] at ho69 ); have HO447 := Aside0.mk (Kd.R_lower ho69 (below_size (bel HB))); replace HB := Aside0.mk (below_step (bel HB) hb); clear hb ho69; have p448 : 0 ≤ (a4 : Int) := oda; have q448 : a4 < (l0.length : Int) := oda; obtain ⟨ad448, e448, hx448_0⟩ := Kd.at_int HR0.out a4 p448 q448; cases e448; replace hx448_0 := cel HB hx448_0; replace p448 := eq_true p448; replace q448 := eq_true q448; have p449 : 0 ≤ ((ji8) : Int) := oda; have q449 : (ji8) < (l1.length : Int) := oda; obtain ⟨ad449, e449, hx449_0, hx449_1, hx449_2, hx449_3, hx449_4⟩ := at_T71 HR1.out (ji8) p449 q449; cases e449; replace hx449_0 := cel HB hx449_0; replace hx449_1 := cel HB hx449_1; replace hx449_2 := cel HB hx449_2; replace hx449_3 := cel HB hx449_3; replace hx449_4 := cel HB hx449_4; replace p449 := eq_true p449; replace q449 := eq_true q449) | ((with_reducible refine gate_dst (N := 12) rfl ?_); refine box_event ?hg (N := 12) ?hd (cs := #[.string (⟨#[]⟩ : ByteArray), .int .i64 0, .int .i64 0, .int .i64 0, .int .i64 0]) (t := 71) ?hr ?_; (case hd | hg => rfl); (case hr => go_simp); intro gb450 hg w70 hbox hb; replace HO447 := Aside0.mk (Kd.R_below (rdl HO447) hb); have BK450 := Aside0.mk (hbox); have GW450 := gsb (w := w) hg (bel HB); have GE450 := gsb (w := w) hg (bel HB); replace HB := Aside0.mk (below_step (bel HB) hb); clear hb hbox hg; obtain ⟨_, _, _, _, _, _, _, _, _, _⟩ := bf5 BK450) | ((with_reducible refine gate_builtin (b := .append) (xs := #[.tmp 64, .tmp 65]) rfl ?_); at_builtin; refine Kd.R_append (Kd.int .i64) (w0 := w) w.heap.size rfl (.tmp 64) (.tmp 65) 30 3 (.int .i64 0) 8 rfl Try.underlying30 info3 rfl (by decide) (by omega) v446 y445 4 [.int .i64 4] (fun _ => True) (fun _ => False) rfl (by (go_simp; done) ) ?aP (fun _ hk => hk.elim) ?aF ?aO ?aB ?aS ?aL ?_; (case aP => exact rfl); (case aB => exact (bel1 HB GE450)); (case aF => exact (fun _ _ => trivial)); (case aO => exact (by exact Kd.R_mono (Kd.R_far (p := ⟨gb450, 4, none⟩) (Kd.R_far (p := ⟨gb450, 3, none⟩) (Kd.R_far (p := ⟨gb450, 2, none⟩) (Kd.R_far (p := ⟨gb450, 1, none⟩) (Kd.R_far (p := ⟨gb450, 0, none⟩) (Kd.R_types HO447.out BK450.out (by decide)) (fun _ hk => hk.2) (.string ((rd_T71 l1 (ji8)).f0))) (fun _ hk => hk.2) (.int .i64 ((rd_T71 l1 (ji8)).f1))) (fun _ hk => hk.2) (.int .i64 ((rd_T71 l1 (ji8)).f2))) (fun _ hk => hk.2) (.int .i64 ((rd_T71 l1 (ji8)).f3))) (fun _ hk => hk.2) (.int .i64 ((rd_T71 l1 (ji8)).f4))) (fun _ hk => trivial))); (case aS => exact (below_size (bel1 HB GE450))); (case aL => have := LMc67.out; omega); intro v470 w72 ho hb hg hat; rw [← Ny469.out] at ho; replace BK450 := Aside0.mk (blk_grown (g := gb450) (o := .cells #[.string ((rd_T71 l1 (ji8)).f0), .int .i64 ((rd_T71 l1 (ji8)).f1), .int .i64 ((rd_T71 l1 (ji8)).f2), .int .i64 ((rd_T71 l1 (ji8)).f3), .int .i64 ((rd_T71 l1 (ji8)).f4)] 71 (0, 0)) (blk_put (blk_put (blk_put (blk_put (blk_put BK450.out 0 _ rfl) 1 _ rfl) 2 _ rfl) 3 _ rfl) 4 _ rfl) hg (Kd.R_ne HO447.out BK450.out (by decide))); replace HB := Aside0.mk (hb); have HO471 := Aside0.mk (ho); clear HO447; clear ho hb hg hat))
  go_ret
  exact ⟨_, by rfl , rdl HO471, bel1 HB GE450⟩
 rw [if_pos c11] at H
 have c11b0 : decide (0 < a4) = true := decide_eq_true c11
 clear c11
 obtain ⟨ji12, hji12⟩ : ∃ j_ : Int, (wrap64 (a4 - 1)) = j_ := ⟨_, rfl⟩
 replace H : (if 0 ≤ (ji12) then (if (ji12) < (l0.length : Int) then (if 0 ≤ (wrap64 ((rd l0 (ji12)) - 1)) then (if (wrap64 ((rd l0 (ji12)) - 1)) < (l1.length : Int) then (if ((rd_T71 l1 (ji8)).f2) > ((rd_T71 l1 (wrap64 ((rd l0 (ji12)) - 1))).f2) then (if y445.length < 17592186044416 then (impl_brokenRules.j0 k a2 a3 (y445 ++ [1]) ((rd_T71 l1 (ji8)).f0) ((rd_T71 l1 (ji8)).f1) ((rd_T71 l1 (ji8)).f2) ((rd_T71 l1 (ji8)).f3) ((rd_T71 l1 (ji8)).f4) ((rd_T71 l1 (wrap64 ((rd l0 (ji12)) - 1))).f0) ((rd_T71 l1 (wrap64 ((rd l0 (ji12)) - 1))).f1) ((rd_T71 l1 (wrap64 ((rd l0 (ji12)) - 1))).f2) ((rd_T71 l1 (wrap64 ((rd l0 (ji12)) - 1))).f3) ((rd_T71 l1 (wrap64 ((rd l0 (ji12)) - 1))).f4)) else (none)) else (impl_brokenRules.j0 k a2 a3 y445 ((rd_T71 l1 (ji8)).f0) ((rd_T71 l1 (ji8)).f1) ((rd_T71 l1 (ji8)).f2) ((rd_T71 l1 (ji8)).f3) ((rd_T71 l1 (ji8)).f4) ((rd_T71 l1 (wrap64 ((rd l0 (ji12)) - 1))).f0) ((rd_T71 l1 (wrap64 ((rd l0 (ji12)) - 1))).f1) ((rd_T71 l1 (wrap64 ((rd l0 (ji12)) - 1))).f2) ((rd_T71 l1 (wrap64 ((rd l0 (ji12)) - 1))).f3) ((rd_T71 l1 (wrap64 ((rd l0 (ji12)) - 1))).f4))) else (none)) else (none)) else (none)) else (none)) = some r := by (rw [hji12] at H; exact H) 
 have hji12w : (IntKind.i64.wrap (a4 - 1)) = ji12 := (i64_w _).trans hji12
 by_cases c13 : 0 ≤ (ji12)
 rotate_left
 ·rw [if_neg c13] at H
  exact absurd H (by simp)
 rw [if_pos c13] at H
 have c13b0 : decide (0 ≤ (ji12)) = true := decide_eq_true c13
 clear c13
 by_cases c14 : (ji12) < (l0.length : Int)
 rotate_left
 ·rw [if_neg c14] at H
  exact absurd H (by simp)
 rw [if_pos c14] at H
 have c14b0 : decide ((ji12) < (l0.length : Int)) = true := decide_eq_true c14
 clear c14
 obtain ⟨ji15, hji15⟩ : ∃ j_ : Int, (wrap64 ((rd l0 (ji12)) - 1)) = j_ := ⟨_, rfl⟩
 replace H : (if 0 ≤ (ji15) then (if (ji15) < (l1.length : Int) then (if ((rd_T71 l1 (ji8)).f2) > ((rd_T71 l1 (ji15)).f2) then (if y445.length < 17592186044416 then (impl_brokenRules.j0 k a2 a3 (y445 ++ [1]) ((rd_T71 l1 (ji8)).f0) ((rd_T71 l1 (ji8)).f1) ((rd_T71 l1 (ji8)).f2) ((rd_T71 l1 (ji8)).f3) ((rd_T71 l1 (ji8)).f4) ((rd_T71 l1 (ji15)).f0) ((rd_T71 l1 (ji15)).f1) ((rd_T71 l1 (ji15)).f2) ((rd_T71 l1 (ji15)).f3) ((rd_T71 l1 (ji15)).f4)) else (none)) else (impl_brokenRules.j0 k a2 a3 y445 ((rd_T71 l1 (ji8)).f0) ((rd_T71 l1 (ji8)).f1) ((rd_T71 l1 (ji8)).f2) ((rd_T71 l1 (ji8)).f3) ((rd_T71 l1 (ji8)).f4) ((rd_T71 l1 (ji15)).f0) ((rd_T71 l1 (ji15)).f1) ((rd_T71 l1 (ji15)).f2) ((rd_T71 l1 (ji15)).f3) ((rd_T71 l1 (ji15)).f4))) else (none)) else (none)) = some r := by (rw [hji15] at H; exact H) 
 have hji15w : (IntKind.i64.wrap ((rd l0 (ji12)) - 1)) = ji15 := (i64_w _).trans hji15
 by_cases c16 : 0 ≤ (ji15)
 rotate_left
 ·rw [if_neg c16] at H
  exact absurd H (by simp)
 rw [if_pos c16] at H
 have c16b0 : decide (0 ≤ (ji15)) = true := decide_eq_true c16
 clear c16
 by_cases c17 : (ji15) < (l1.length : Int)
 rotate_left
 ·rw [if_neg c17] at H
  exact absurd H (by simp)
 rw [if_pos c17] at H
 have c17b0 : decide ((ji15) < (l1.length : Int)) = true := decide_eq_true c17
 clear c17
 have HC18 := Aside0.mk H
 clear H
 go_enter Try.func23, Try.ntmps23
 go_upto_if 38 with (first | ((with_reducible refine gate_dst (N := 14) rfl ?_); refine Kd.R_lit (Kd.int .i64) _ 3 ?hg (N := 14) ?hd (xs := ([] : List Int)) (inner := []) (ok := fun _ => True) (okp := fun _ => True) ?hr ?hp (fun _ hk => hk) trivial (Below.refl _ _) (Nat.le_refl _) (by simp) ?_; (case hd | hg => rfl); (case hr => go_simp); (case hp => exact (Reps.none _ _)); intro v446 w19 ho20 hb hg_ hnew_; clear hg_ hnew_; (rw [← Ny445.out] at ho20 ); have HO447 := Aside0.mk (Kd.R_lower ho20 (below_size (bel HB))); replace HB := Aside0.mk (below_step (bel HB) hb); clear hb ho20; have p448 : 0 ≤ (a4 : Int) := oda; have q448 : a4 < (l0.length : Int) := oda; obtain ⟨ad448, e448, hx448_0⟩ := Kd.at_int HR0.out a4 p448 q448; cases e448; replace hx448_0 := cel HB hx448_0; replace p448 := eq_true p448; replace q448 := eq_true q448; have p449 : 0 ≤ ((ji8) : Int) := oda; have q449 : (ji8) < (l1.length : Int) := oda; obtain ⟨ad449, e449, hx449_0, hx449_1, hx449_2, hx449_3, hx449_4⟩ := at_T71 HR1.out (ji8) p449 q449; cases e449; replace hx449_0 := cel HB hx449_0; replace hx449_1 := cel HB hx449_1; replace hx449_2 := cel HB hx449_2; replace hx449_3 := cel HB hx449_3; replace hx449_4 := cel HB hx449_4; replace p449 := eq_true p449; replace q449 := eq_true q449) | ((with_reducible refine gate_dst (N := 12) rfl ?_); refine box_event ?hg (N := 12) ?hd (cs := #[.string (⟨#[]⟩ : ByteArray), .int .i64 0, .int .i64 0, .int .i64 0, .int .i64 0]) (t := 71) ?hr ?_; (case hd | hg => rfl); (case hr => go_simp); intro gb450 hg w21 hbox hb; replace HO447 := Aside0.mk (Kd.R_below (rdl HO447) hb); have BK450 := Aside0.mk (hbox); have GW450 := gsb (w := w) hg (bel HB); have GE450 := gsb (w := w) hg (bel HB); replace HB := Aside0.mk (below_step (bel HB) hb); clear hb hbox hg; have hcz22_0 := bc BK450 0; have hcz22_1 := bc BK450 1; have hcz22_2 := bc BK450 2; have hcz22_3 := bc BK450 3; have hcz22_4 := bc BK450 4; have hfz22_0 := blk_frozen BK450.out 0; have hfz22_1 := blk_frozen BK450.out 1; have hfz22_2 := blk_frozen BK450.out 2; have hfz22_3 := blk_frozen BK450.out 3; have hfz22_4 := blk_frozen BK450.out 4; have p451 : 0 ≤ ((ji12) : Int) := oda; have q451 : (ji12) < (l0.length : Int) := oda; obtain ⟨ad451, e451, hx451_0⟩ := Kd.at_int HR0.out (ji12) p451 q451; obtain rfl : ad448 = ad451 := (by injection e451); have hn451_0 : ad448.block ≠ gb450 := Nat.ne_of_lt (Nat.lt_of_lt_of_le (by have := World.block_lt_of_cell? _ _ hx451_0; rwa [add_block] at this ) GW450.out); have hn451_1 : ad448.block ≠ gb450 := Nat.ne_of_lt (Nat.lt_of_lt_of_le (by have := World.block_lt_of_cell? _ _ hx451_0; rwa [add_block] at this ) GW450.out); have hn451_2 : ad448.block ≠ gb450 := Nat.ne_of_lt (Nat.lt_of_lt_of_le (by have := World.block_lt_of_cell? _ _ hx451_0; rwa [add_block] at this ) GW450.out); have hn451_3 : ad448.block ≠ gb450 := Nat.ne_of_lt (Nat.lt_of_lt_of_le (by have := World.block_lt_of_cell? _ _ hx451_0; rwa [add_block] at this ) GW450.out); have hn451_4 : ad448.block ≠ gb450 := Nat.ne_of_lt (Nat.lt_of_lt_of_le (by have := World.block_lt_of_cell? _ _ hx451_0; rwa [add_block] at this ) GW450.out); replace hx451_0 := cel HB hx451_0; replace hx451_0 := (cell_far (p := ⟨gb450, 0, none⟩) (by (rw [add_block]; exact hn451_0) ) (.string ((rd_T71 l1 (ji8)).f0))).trans hx451_0; replace hx451_0 := (cell_far (p := ⟨gb450, 1, none⟩) (by (rw [add_block]; exact hn451_1) ) (.int .i64 ((rd_T71 l1 (ji8)).f1))).trans hx451_0; replace hx451_0 := (cell_far (p := ⟨gb450, 2, none⟩) (by (rw [add_block]; exact hn451_2) ) (.int .i64 ((rd_T71 l1 (ji8)).f2))).trans hx451_0; replace hx451_0 := (cell_far (p := ⟨gb450, 3, none⟩) (by (rw [add_block]; exact hn451_3) ) (.int .i64 ((rd_T71 l1 (ji8)).f3))).trans hx451_0; replace hx451_0 := (cell_far (p := ⟨gb450, 4, none⟩) (by (rw [add_block]; exact hn451_4) ) (.int .i64 ((rd_T71 l1 (ji8)).f4))).trans hx451_0; clear hn451_0; clear hn451_1; clear hn451_2; clear hn451_3; clear hn451_4; replace p451 := eq_true p451; replace q451 := eq_true q451; have p452 : 0 ≤ ((ji15) : Int) := oda; have q452 : (ji15) < (l1.length : Int) := oda; obtain ⟨ad452, e452, hx452_0, hx452_1, hx452_2, hx452_3, hx452_4⟩ := at_T71 HR1.out (ji15) p452 q452; obtain rfl : ad449 = ad452 := (by injection e452); have hn452_0 : ad449.block ≠ gb450 := Nat.ne_of_lt (Nat.lt_of_lt_of_le (by have := World.block_lt_of_cell? _ _ hx452_0; rwa [add_block] at this ) GW450.out); have hn452_1 : ad449.block ≠ gb450 := Nat.ne_of_lt (Nat.lt_of_lt_of_le (by have := World.block_lt_of_cell? _ _ hx452_0; rwa [add_block] at this ) GW450.out); have hn452_2 : ad449.block ≠ gb450 := Nat.ne_of_lt (Nat.lt_of_lt_of_le (by have := World.block_lt_of_cell? _ _ hx452_0; rwa [add_block] at this ) GW450.out); have hn452_3 : ad449.block ≠ gb450 := Nat.ne_of_lt (Nat.lt_of_lt_of_le (by have := World.block_lt_of_cell? _ _ hx452_0; rwa [add_block] at this ) GW450.out); have hn452_4 : ad449.block ≠ gb450 := Nat.ne_of_lt (Nat.lt_of_lt_of_le (by have := World.block_lt_of_cell? _ _ hx452_0; rwa [add_block] at this ) GW450.out); replace hx452_0 := cel HB hx452_0; replace hx452_1 := cel HB hx452_1; replace hx452_2 := cel HB hx452_2; replace hx452_3 := cel HB hx452_3; replace hx452_4 := cel HB hx452_4; replace hx452_0 := (cell_far (p := ⟨gb450, 0, none⟩) (by (rw [add_block]; exact hn452_0) ) (.string ((rd_T71 l1 (ji8)).f0))).trans hx452_0; replace hx452_1 := (cell_far (p := ⟨gb450, 0, none⟩) (by (rw [add_block]; exact hn452_0) ) (.string ((rd_T71 l1 (ji8)).f0))).trans hx452_1; replace hx452_2 := (cell_far (p := ⟨gb450, 0, none⟩) (by (rw [add_block]; exact hn452_0) ) (.string ((rd_T71 l1 (ji8)).f0))).trans hx452_2; replace hx452_3 := (cell_far (p := ⟨gb450, 0, none⟩) (by (rw [add_block]; exact hn452_0) ) (.string ((rd_T71 l1 (ji8)).f0))).trans hx452_3; replace hx452_4 := (cell_far (p := ⟨gb450, 0, none⟩) (by (rw [add_block]; exact hn452_0) ) (.string ((rd_T71 l1 (ji8)).f0))).trans hx452_4; replace hx452_0 := (cell_far (p := ⟨gb450, 1, none⟩) (by (rw [add_block]; exact hn452_1) ) (.int .i64 ((rd_T71 l1 (ji8)).f1))).trans hx452_0; replace hx452_1 := (cell_far (p := ⟨gb450, 1, none⟩) (by (rw [add_block]; exact hn452_1) ) (.int .i64 ((rd_T71 l1 (ji8)).f1))).trans hx452_1; replace hx452_2 := (cell_far (p := ⟨gb450, 1, none⟩) (by (rw [add_block]; exact hn452_1) ) (.int .i64 ((rd_T71 l1 (ji8)).f1))).trans hx452_2; replace hx452_3 := (cell_far (p := ⟨gb450, 1, none⟩) (by (rw [add_block]; exact hn452_1) ) (.int .i64 ((rd_T71 l1 (ji8)).f1))).trans hx452_3; replace hx452_4 := (cell_far (p := ⟨gb450, 1, none⟩) (by (rw [add_block]; exact hn452_1) ) (.int .i64 ((rd_T71 l1 (ji8)).f1))).trans hx452_4; replace hx452_0 := (cell_far (p := ⟨gb450, 2, none⟩) (by (rw [add_block]; exact hn452_2) ) (.int .i64 ((rd_T71 l1 (ji8)).f2))).trans hx452_0; replace hx452_1 := (cell_far (p := ⟨gb450, 2, none⟩) (by (rw [add_block]; exact hn452_2) ) (.int .i64 ((rd_T71 l1 (ji8)).f2))).trans hx452_1; replace hx452_2 := (cell_far (p := ⟨gb450, 2, none⟩) (by (rw [add_block]; exact hn452_2) ) (.int .i64 ((rd_T71 l1 (ji8)).f2))).trans hx452_2; replace hx452_3 := (cell_far (p := ⟨gb450, 2, none⟩) (by (rw [add_block]; exact hn452_2) ) (.int .i64 ((rd_T71 l1 (ji8)).f2))).trans hx452_3; replace hx452_4 := (cell_far (p := ⟨gb450, 2, none⟩) (by (rw [add_block]; exact hn452_2) ) (.int .i64 ((rd_T71 l1 (ji8)).f2))).trans hx452_4; replace hx452_0 := (cell_far (p := ⟨gb450, 3, none⟩) (by (rw [add_block]; exact hn452_3) ) (.int .i64 ((rd_T71 l1 (ji8)).f3))).trans hx452_0; replace hx452_1 := (cell_far (p := ⟨gb450, 3, none⟩) (by (rw [add_block]; exact hn452_3) ) (.int .i64 ((rd_T71 l1 (ji8)).f3))).trans hx452_1; replace hx452_2 := (cell_far (p := ⟨gb450, 3, none⟩) (by (rw [add_block]; exact hn452_3) ) (.int .i64 ((rd_T71 l1 (ji8)).f3))).trans hx452_2; replace hx452_3 := (cell_far (p := ⟨gb450, 3, none⟩) (by (rw [add_block]; exact hn452_3) ) (.int .i64 ((rd_T71 l1 (ji8)).f3))).trans hx452_3; replace hx452_4 := (cell_far (p := ⟨gb450, 3, none⟩) (by (rw [add_block]; exact hn452_3) ) (.int .i64 ((rd_T71 l1 (ji8)).f3))).trans hx452_4; replace hx452_0 := (cell_far (p := ⟨gb450, 4, none⟩) (by (rw [add_block]; exact hn452_4) ) (.int .i64 ((rd_T71 l1 (ji8)).f4))).trans hx452_0; replace hx452_1 := (cell_far (p := ⟨gb450, 4, none⟩) (by (rw [add_block]; exact hn452_4) ) (.int .i64 ((rd_T71 l1 (ji8)).f4))).trans hx452_1; replace hx452_2 := (cell_far (p := ⟨gb450, 4, none⟩) (by (rw [add_block]; exact hn452_4) ) (.int .i64 ((rd_T71 l1 (ji8)).f4))).trans hx452_2; replace hx452_3 := (cell_far (p := ⟨gb450, 4, none⟩) (by (rw [add_block]; exact hn452_4) ) (.int .i64 ((rd_T71 l1 (ji8)).f4))).trans hx452_3; replace hx452_4 := (cell_far (p := ⟨gb450, 4, none⟩) (by (rw [add_block]; exact hn452_4) ) (.int .i64 ((rd_T71 l1 (ji8)).f4))).trans hx452_4; clear hn452_0; clear hn452_1; clear hn452_2; clear hn452_3; clear hn452_4; replace p452 := eq_true p452; replace q452 := eq_true q452) | ((with_reducible refine gate_dst (N := 13) rfl ?_); refine box_event ?hg (N := 13) ?hd (cs := #[.string (⟨#[]⟩ : ByteArray), .int .i64 0, .int .i64 0, .int .i64 0, .int .i64 0]) (t := 71) ?hr ?_; (case hd | hg => rfl); (case hr => go_simp); intro gb453 hg w23 hbox hb; replace HO447 := Aside0.mk (Kd.R_below (by exact (Kd.R_mono (Kd.R_far (p := ⟨gb450, 4, none⟩) (Kd.R_far (p := ⟨gb450, 3, none⟩) (Kd.R_far (p := ⟨gb450, 2, none⟩) (Kd.R_far (p := ⟨gb450, 1, none⟩) (Kd.R_far (p := ⟨gb450, 0, none⟩) (Kd.R_types HO447.out BK450.out (by decide)) (fun _ hk => hk.2) (.string ((rd_T71 l1 (ji8)).f0))) (fun _ hk => hk.2) (.int .i64 ((rd_T71 l1 (ji8)).f1))) (fun _ hk => hk.2) (.int .i64 ((rd_T71 l1 (ji8)).f2))) (fun _ hk => hk.2) (.int .i64 ((rd_T71 l1 (ji8)).f3))) (fun _ hk => hk.2) (.int .i64 ((rd_T71 l1 (ji8)).f4))) (fun _ h_ => h_.1))) hb); have BK453 := Aside0.mk (hbox); have GW453 := gsb (w := w) hg (bel1 HB GE450); have GE453 := gsb (w := w) hg (bel1 HB GE450); replace HB := Aside0.mk (below_step (bel1 HB GE450) hb); have NB450_453 := Aside0.mk ((by rw [hg]; exact Nat.ne_of_lt (blk_lt (g := gb450) (o := .cells #[.string ((rd_T71 l1 (ji8)).f0), .int .i64 ((rd_T71 l1 (ji8)).f1), .int .i64 ((rd_T71 l1 (ji8)).f2), .int .i64 ((rd_T71 l1 (ji8)).f3), .int .i64 ((rd_T71 l1 (ji8)).f4)] 71 (0, 0)) (blk_put (blk_put (blk_put (blk_put (blk_put BK450.out 0 _ rfl) 1 _ rfl) 2 _ rfl) 3 _ rfl) 4 _ rfl)) : gb450 ≠ gb453)); have NB453_450 := Aside0.mk ((by rw [hg]; exact Nat.ne_of_gt (blk_lt (g := gb450) (o := .cells #[.string ((rd_T71 l1 (ji8)).f0), .int .i64 ((rd_T71 l1 (ji8)).f1), .int .i64 ((rd_T71 l1 (ji8)).f2), .int .i64 ((rd_T71 l1 (ji8)).f3), .int .i64 ((rd_T71 l1 (ji8)).f4)] 71 (0, 0)) (blk_put (blk_put (blk_put (blk_put (blk_put BK450.out 0 _ rfl) 1 _ rfl) 2 _ rfl) 3 _ rfl) 4 _ rfl)) : gb453 ≠ gb450)); replace BK450 := Aside0.mk (blk_below (g := gb450) (o := .cells #[.string ((rd_T71 l1 (ji8)).f0), .int .i64 ((rd_T71 l1 (ji8)).f1), .int .i64 ((rd_T71 l1 (ji8)).f2), .int .i64 ((rd_T71 l1 (ji8)).f3), .int .i64 ((rd_T71 l1 (ji8)).f4)] 71 (0, 0)) (blk_put (blk_put (blk_put (blk_put (blk_put BK450.out 0 _ rfl) 1 _ rfl) 2 _ rfl) 3 _ rfl) 4 _ rfl) hb); clear hb hbox hg; have hnb24 := NB453_450.out; have hnc24 := NB450_453.out; have hcz25_0 := bc BK453 0; have hcz25_1 := bc BK453 1; have hcz25_2 := bc BK453 2; have hcz25_3 := bc BK453 3; have hcz25_4 := bc BK453 4; have hfz25_0 := blk_frozen BK453.out 0; have hfz25_1 := blk_frozen BK453.out 1; have hfz25_2 := blk_frozen BK453.out 2; have hfz25_3 := blk_frozen BK453.out 3; have hfz25_4 := blk_frozen BK453.out 4; have hcz26_0 : w23.cell? ⟨gb450, 0, none⟩ = some (.string ((rd_T71 l1 (ji8)).f0)) := (blk_cell BK450.out 0).trans rfl; have hcz26_1 : w23.cell? ⟨gb450, 1, none⟩ = some (.int .i64 ((rd_T71 l1 (ji8)).f1)) := (blk_cell BK450.out 1).trans rfl; have hcz26_2 : w23.cell? ⟨gb450, 2, none⟩ = some (.int .i64 ((rd_T71 l1 (ji8)).f2)) := (blk_cell BK450.out 2).trans rfl; have hcz26_3 : w23.cell? ⟨gb450, 3, none⟩ = some (.int .i64 ((rd_T71 l1 (ji8)).f3)) := (blk_cell BK450.out 3).trans rfl; have hcz26_4 : w23.cell? ⟨gb450, 4, none⟩ = some (.int .i64 ((rd_T71 l1 (ji8)).f4)) := (blk_cell BK450.out 4).trans rfl; have hfz26_0 := blk_frozen BK450.out 0; have hfz26_1 := blk_frozen BK450.out 1; have hfz26_2 := blk_frozen BK450.out 2; have hfz26_3 := blk_frozen BK450.out 3; have hfz26_4 := blk_frozen BK450.out 4))
 go_cut [11] (fun v11 wc => ∃ (kq : Nat) (x11_17 : List Int), Aside0 (impl_brokenRules.j0 kq a2 a3 x11_17 ((rd_T71 l1 (ji8)).f0) ((rd_T71 l1 (ji8)).f1) ((rd_T71 l1 (ji8)).f2) ((rd_T71 l1 (ji8)).f3) ((rd_T71 l1 (ji8)).f4) ((rd_T71 l1 (ji15)).f0) ((rd_T71 l1 (ji15)).f1) ((rd_T71 l1 (ji15)).f2) ((rd_T71 l1 (ji15)).f3) ((rd_T71 l1 (ji15)).f4) = some r) ∧ Aside0 (kq ≤ k) ∧ Aside0 (Kd.R (Kd.int .i64) 3 wc w.heap.size (fun _ => True) v11 x11_17) ∧ Aside0 (wc.heap[gb450]? = some (.cells #[.string ((rd_T71 l1 (ji8)).f0), .int .i64 ((rd_T71 l1 (ji8)).f1), .int .i64 ((rd_T71 l1 (ji8)).f2), .int .i64 ((rd_T71 l1 (ji8)).f3), .int .i64 ((rd_T71 l1 (ji8)).f4)] 71 (0, 0))) ∧ Aside0 (wc.heap[gb453]? = some (.cells #[.string ((rd_T71 l1 (ji15)).f0), .int .i64 ((rd_T71 l1 (ji15)).f1), .int .i64 ((rd_T71 l1 (ji15)).f2), .int .i64 ((rd_T71 l1 (ji15)).f3), .int .i64 ((rd_T71 l1 (ji15)).f4)] 71 (0, 0))) ∧ Aside0 (Below w.heap.size w wc))
 case first =>
  have H := HC18.out
  clear HC18
  by_cases c27 : ((rd_T71 l1 (ji8)).f2) > ((rd_T71 l1 (ji15)).f2)
  rotate_left
  ·rw [if_neg c27] at H
   have c27b0 : decide (((rd_T71 l1 (ji15)).f2) < ((rd_T71 l1 (ji8)).f2)) = false := decide_eq_false c27
   clear c27
   (rw [c27b0] )
   have H' := Aside0.mk H
   clear H
   go_wp2
   go_meet
   case rel => exact ⟨_, (y445), H', ⟨by omega ⟩, ⟨by exact Kd.R_mono (Kd.R_far (p := ⟨gb453, 4, none⟩) (Kd.R_far (p := ⟨gb453, 3, none⟩) (Kd.R_far (p := ⟨gb453, 2, none⟩) (Kd.R_far (p := ⟨gb453, 1, none⟩) (Kd.R_far (p := ⟨gb453, 0, none⟩) (Kd.R_types HO447.out BK453.out (by decide)) (fun _ hk => hk.2) (.string ((rd_T71 l1 (ji15)).f0))) (fun _ hk => hk.2) (.int .i64 ((rd_T71 l1 (ji15)).f1))) (fun _ hk => hk.2) (.int .i64 ((rd_T71 l1 (ji15)).f2))) (fun _ hk => hk.2) (.int .i64 ((rd_T71 l1 (ji15)).f3))) (fun _ hk => hk.2) (.int .i64 ((rd_T71 l1 (ji15)).f4))) (fun _ hk => trivial)⟩, ⟨by refine blk_far ?_ NB450_453.out _; refine blk_far ?_ NB450_453.out _; refine blk_far ?_ NB450_453.out _; refine blk_far ?_ NB450_453.out _; refine blk_far ?_ NB450_453.out _; exact BK450.out⟩, ⟨by refine blk_put (cs := #[.string ((rd_T71 l1 (ji15)).f0), .int .i64 ((rd_T71 l1 (ji15)).f1), .int .i64 ((rd_T71 l1 (ji15)).f2), .int .i64 ((rd_T71 l1 (ji15)).f3), .int .i64 0]) ?_ 4 _ rfl; refine blk_put (cs := #[.string ((rd_T71 l1 (ji15)).f0), .int .i64 ((rd_T71 l1 (ji15)).f1), .int .i64 ((rd_T71 l1 (ji15)).f2), .int .i64 0, .int .i64 0]) ?_ 3 _ rfl; refine blk_put (cs := #[.string ((rd_T71 l1 (ji15)).f0), .int .i64 ((rd_T71 l1 (ji15)).f1), .int .i64 0, .int .i64 0, .int .i64 0]) ?_ 2 _ rfl; refine blk_put (cs := #[.string ((rd_T71 l1 (ji15)).f0), .int .i64 0, .int .i64 0, .int .i64 0, .int .i64 0]) ?_ 1 _ rfl; refine blk_put (cs := #[.string (⟨#[]⟩ : ByteArray), .int .i64 0, .int .i64 0, .int .i64 0, .int .i64 0]) ?_ 0 _ rfl; exact BK453.out⟩, ⟨bel2 HB GE450 GE453⟩⟩
  rw [if_pos c27] at H
  have c27b0 : decide (((rd_T71 l1 (ji15)).f2) < ((rd_T71 l1 (ji8)).f2)) = true := decide_eq_true c27
  clear c27
  (rw [c27b0] )
  by_cases c28 : y445.length < 17592186044416
  rotate_left
  ·rw [if_neg c28] at H
   exact absurd H (by simp)
  rw [if_pos c28] at H
  have LMc28 := Aside0.mk c28
  clear c28
  obtain ⟨y454, hy454⟩ : ∃ y_ : List Int, y_ = (y445 ++ [1]) := ⟨_, rfl⟩
  replace H : (impl_brokenRules.j0 k a2 a3 y454 ((rd_T71 l1 (ji8)).f0) ((rd_T71 l1 (ji8)).f1) ((rd_T71 l1 (ji8)).f2) ((rd_T71 l1 (ji8)).f3) ((rd_T71 l1 (ji8)).f4) ((rd_T71 l1 (ji15)).f0) ((rd_T71 l1 (ji15)).f1) ((rd_T71 l1 (ji15)).f2) ((rd_T71 l1 (ji15)).f3) ((rd_T71 l1 (ji15)).f4)) = some r := by (rw [hy454]; with_reducible exact H) 
  have Ny454 := Aside0.mk hy454
  clear hy454
  have H' := Aside0.mk H
  clear H
  go_wp2_with (first | ((with_reducible refine gate_builtin (b := .append) (xs := #[.tmp 39, .tmp 40]) rfl ?_); at_builtin; refine Kd.R_append (Kd.int .i64) (w0 := w) w.heap.size rfl (.tmp 39) (.tmp 40) 30 3 (.int .i64 0) 8 rfl Try.underlying30 info3 rfl (by decide) (by omega) v446 y445 1 [.int .i64 1] (fun _ => True) (fun _ => False) rfl (by (go_simp; done) ) ?aP (fun _ hk => hk.elim) ?aF ?aO ?aB ?aS ?aL ?_; (case aP => exact rfl); (case aB => exact (bel2 HB GE450 GE453)); (case aF => exact (fun _ _ => trivial)); (case aO => exact (by exact Kd.R_mono (Kd.R_far (p := ⟨gb453, 4, none⟩) (Kd.R_far (p := ⟨gb453, 3, none⟩) (Kd.R_far (p := ⟨gb453, 2, none⟩) (Kd.R_far (p := ⟨gb453, 1, none⟩) (Kd.R_far (p := ⟨gb453, 0, none⟩) (Kd.R_types HO447.out BK453.out (by decide)) (fun _ hk => hk.2) (.string ((rd_T71 l1 (ji15)).f0))) (fun _ hk => hk.2) (.int .i64 ((rd_T71 l1 (ji15)).f1))) (fun _ hk => hk.2) (.int .i64 ((rd_T71 l1 (ji15)).f2))) (fun _ hk => hk.2) (.int .i64 ((rd_T71 l1 (ji15)).f3))) (fun _ hk => hk.2) (.int .i64 ((rd_T71 l1 (ji15)).f4))) (fun _ hk => trivial))); (case aS => exact (below_size (bel2 HB GE450 GE453))); (case aL => have := LMc28.out; omega); intro v455 w29 ho hb hg hat; rw [← Ny454.out] at ho; replace BK450 := Aside0.mk (blk_grown (g := gb450) (o := .cells #[.string ((rd_T71 l1 (ji8)).f0), .int .i64 ((rd_T71 l1 (ji8)).f1), .int .i64 ((rd_T71 l1 (ji8)).f2), .int .i64 ((rd_T71 l1 (ji8)).f3), .int .i64 ((rd_T71 l1 (ji8)).f4)] 71 (0, 0)) (blk_far (blk_far (blk_far (blk_far (blk_far BK450.out NB450_453.out _) NB450_453.out _) NB450_453.out _) NB450_453.out _) NB450_453.out _) hg (Kd.R_ne HO447.out BK450.out (by decide))); replace BK453 := Aside0.mk (blk_grown (g := gb453) (o := .cells #[.string ((rd_T71 l1 (ji15)).f0), .int .i64 ((rd_T71 l1 (ji15)).f1), .int .i64 ((rd_T71 l1 (ji15)).f2), .int .i64 ((rd_T71 l1 (ji15)).f3), .int .i64 ((rd_T71 l1 (ji15)).f4)] 71 (0, 0)) (blk_put (blk_put (blk_put (blk_put (blk_put BK453.out 0 _ rfl) 1 _ rfl) 2 _ rfl) 3 _ rfl) 4 _ rfl) hg (Kd.R_ne HO447.out BK453.out (by decide))); replace HB := Aside0.mk (hb); have HO456 := Aside0.mk (ho); clear HO447; clear ho hb hg hat))
  go_meet
  case rel => exact ⟨_, (y454), H', ⟨by omega ⟩, ⟨rdl HO456⟩, ⟨bkl BK450⟩, ⟨bkl BK453⟩, ⟨bel2 HB GE450 GE453⟩⟩
 clear HC18
 try clear c6b0
 try clear c7b0
 try clear c9b0
 try clear c10b0
 try clear c11b0
 try clear c13b0
 try clear c14b0
 try clear c16b0
 try clear c17b0
 try clear hcz22_0
 try clear hcz22_1
 try clear hcz22_2
 try clear hcz22_3
 try clear hcz22_4
 try clear hcz25_0
 try clear hcz25_1
 try clear hcz25_2
 try clear hcz25_3
 try clear hcz25_4
 try clear hcz26_0
 try clear hcz26_1
 try clear hcz26_2
 try clear hcz26_3
 try clear hcz26_4
 try clear hfz22_0
 try clear hfz22_1
 try clear hfz22_2
 try clear hfz22_3
 try clear hfz22_4
 try clear hfz25_0
 try clear hfz25_1
 try clear hfz25_2
 try clear hfz25_3
 try clear hfz25_4
 try clear hfz26_0
 try clear hfz26_1
 try clear hfz26_2
 try clear hfz26_3
 try clear hfz26_4
 try clear hx448_0
 try clear hx449_0
 try clear hx449_1
 try clear hx449_2
 try clear hx449_3
 try clear hx449_4
 try clear hx451_0
 try clear hx452_0
 try clear hx452_1
 try clear hx452_2
 try clear hx452_3
 try clear hx452_4
 try clear p448
 try clear p449
 try clear p451
 try clear p452
 try clear q448
 try clear q449
 try clear q451
 try clear q452
 obtain ⟨kq, x11_17, HA, HJ17, HO_11, BK450, BK453, HB⟩ := hcut
 cases kq with
 | zero => exact absurd HA.out (by simp [impl_brokenRules.j0])
 | succ kj17 =>
  have H := HA.out
  clear HA
  simp only [impl_brokenRules.j0] at H
  have HC30 := Aside0.mk H
  clear H
  have hnb31 := NB450_453.out
  have hnc31 := NB453_450.out
  have hcz32_0 : wc.cell? ⟨gb450, 0, none⟩ = some (.string ((rd_T71 l1 (ji8)).f0)) := (blk_cell BK450.out 0).trans rfl
  have hcz32_1 : wc.cell? ⟨gb450, 1, none⟩ = some (.int .i64 ((rd_T71 l1 (ji8)).f1)) := (blk_cell BK450.out 1).trans rfl
  have hcz32_2 : wc.cell? ⟨gb450, 2, none⟩ = some (.int .i64 ((rd_T71 l1 (ji8)).f2)) := (blk_cell BK450.out 2).trans rfl
  have hcz32_3 : wc.cell? ⟨gb450, 3, none⟩ = some (.int .i64 ((rd_T71 l1 (ji8)).f3)) := (blk_cell BK450.out 3).trans rfl
  have hcz32_4 : wc.cell? ⟨gb450, 4, none⟩ = some (.int .i64 ((rd_T71 l1 (ji8)).f4)) := (blk_cell BK450.out 4).trans rfl
  have hfz32_0 := blk_frozen BK450.out 0
  have hfz32_1 := blk_frozen BK450.out 1
  have hfz32_2 := blk_frozen BK450.out 2
  have hfz32_3 := blk_frozen BK450.out 3
  have hfz32_4 := blk_frozen BK450.out 4
  have hcz33_0 : wc.cell? ⟨gb453, 0, none⟩ = some (.string ((rd_T71 l1 (ji15)).f0)) := (blk_cell BK453.out 0).trans rfl
  have hcz33_1 : wc.cell? ⟨gb453, 1, none⟩ = some (.int .i64 ((rd_T71 l1 (ji15)).f1)) := (blk_cell BK453.out 1).trans rfl
  have hcz33_2 : wc.cell? ⟨gb453, 2, none⟩ = some (.int .i64 ((rd_T71 l1 (ji15)).f2)) := (blk_cell BK453.out 2).trans rfl
  have hcz33_3 : wc.cell? ⟨gb453, 3, none⟩ = some (.int .i64 ((rd_T71 l1 (ji15)).f3)) := (blk_cell BK453.out 3).trans rfl
  have hcz33_4 : wc.cell? ⟨gb453, 4, none⟩ = some (.int .i64 ((rd_T71 l1 (ji15)).f4)) := (blk_cell BK453.out 4).trans rfl
  have hfz33_0 := blk_frozen BK453.out 0
  have hfz33_1 := blk_frozen BK453.out 1
  have hfz33_2 := blk_frozen BK453.out 2
  have hfz33_3 := blk_frozen BK453.out 3
  have hfz33_4 := blk_frozen BK453.out 4
  go_upto_if 46 with (fail)
  go_cut [11] (fun v11 wc => ∃ (kq : Nat) (x11_29 : List Int), Aside0 (impl_brokenRules.j1 kq a2 a3 x11_29 ((rd_T71 l1 (ji8)).f0) ((rd_T71 l1 (ji8)).f1) ((rd_T71 l1 (ji8)).f2) ((rd_T71 l1 (ji8)).f3) ((rd_T71 l1 (ji8)).f4) = some r) ∧ Aside0 (kq ≤ kj17) ∧ Aside0 (Kd.R (Kd.int .i64) 3 wc w.heap.size (fun _ => True) v11 x11_29) ∧ Aside0 (wc.heap[gb450]? = some (.cells #[.string ((rd_T71 l1 (ji8)).f0), .int .i64 ((rd_T71 l1 (ji8)).f1), .int .i64 ((rd_T71 l1 (ji8)).f2), .int .i64 ((rd_T71 l1 (ji8)).f3), .int .i64 ((rd_T71 l1 (ji8)).f4)] 71 (0, 0))) ∧ Aside0 (wc.heap[gb453]? = some (.cells #[.string ((rd_T71 l1 (ji15)).f0), .int .i64 ((rd_T71 l1 (ji15)).f1), .int .i64 ((rd_T71 l1 (ji15)).f2), .int .i64 ((rd_T71 l1 (ji15)).f3), .int .i64 ((rd_T71 l1 (ji15)).f4)] 71 (0, 0))) ∧ Aside0 (Below w.heap.size w wc))
  case first =>
   have H := HC30.out
   clear HC30
   by_cases c34 : ((rd_T71 l1 (ji8)).f1) = ((rd_T71 l1 (ji15)).f1)
   ·rw [if_pos c34] at H
    have c34b0 : (((rd_T71 l1 (ji8)).f1) == ((rd_T71 l1 (ji15)).f1)) = true := beq_iff_eq.mpr c34
    have c34b1 : (((rd_T71 l1 (ji8)).f1) != ((rd_T71 l1 (ji15)).f1)) = false := bne_eq_false_iff_eq.mpr c34
    clear c34
    have H' := Aside0.mk H
    clear H
    go_wp2
    go_meet
    case rel => exact ⟨_, (x11_17), H', ⟨by have := HJ17.out; omega ⟩, ⟨rdl HO_11⟩, ⟨bkl BK450⟩, ⟨bkl BK453⟩, ⟨bel2 HB GE450 GE453⟩⟩
   rw [if_neg c34] at H
   have c34b0 : (((rd_T71 l1 (ji8)).f1) == ((rd_T71 l1 (ji15)).f1)) = false := beq_eq_false_iff_ne.mpr c34
   have c34b1 : (((rd_T71 l1 (ji8)).f1) != ((rd_T71 l1 (ji15)).f1)) = true := bne_iff_ne.mpr c34
   by_cases c35 : x11_17.length < 17592186044416
   rotate_left
   ·rw [if_neg c35] at H
    exact absurd H (by simp)
   rw [if_pos c35] at H
   have LMc35 := Aside0.mk c35
   clear c35
   obtain ⟨y457, hy457⟩ : ∃ y_ : List Int, y_ = (x11_17 ++ [2]) := ⟨_, rfl⟩
   replace H : (impl_brokenRules.j1 kj17 a2 a3 y457 ((rd_T71 l1 (ji8)).f0) ((rd_T71 l1 (ji8)).f1) ((rd_T71 l1 (ji8)).f2) ((rd_T71 l1 (ji8)).f3) ((rd_T71 l1 (ji8)).f4)) = some r := by (rw [hy457]; with_reducible exact H) 
   have Ny457 := Aside0.mk hy457
   clear hy457
   have H' := Aside0.mk H
   clear H
   go_wp2_with (first | ((with_reducible refine gate_builtin (b := .append) (xs := #[.tmp 47, .tmp 48]) rfl ?_); at_builtin; refine Kd.R_append (Kd.int .i64) (w0 := w) w.heap.size rfl (.tmp 47) (.tmp 48) 30 3 (.int .i64 0) 8 rfl Try.underlying30 info3 rfl (by decide) (by omega) u11 x11_17 2 [.int .i64 2] (fun _ => True) (fun _ => False) rfl rfl ?aP (fun _ hk => hk.elim) ?aF ?aO ?aB ?aS ?aL ?_; (case aP => exact rfl); (case aB => exact (bel2 HB GE450 GE453)); (case aF => exact (fun _ _ => trivial)); (case aO => exact (rdl HO_11)); (case aS => exact (below_size (bel2 HB GE450 GE453))); (case aL => have := LMc35.out; omega); intro v458 w36 ho hb hg hat; rw [← Ny457.out] at ho; replace BK450 := Aside0.mk (blk_grown (g := gb450) (o := .cells #[.string ((rd_T71 l1 (ji8)).f0), .int .i64 ((rd_T71 l1 (ji8)).f1), .int .i64 ((rd_T71 l1 (ji8)).f2), .int .i64 ((rd_T71 l1 (ji8)).f3), .int .i64 ((rd_T71 l1 (ji8)).f4)] 71 (0, 0)) (bkl BK450) hg (Kd.R_ne HO_11.out BK450.out (by decide))); replace BK453 := Aside0.mk (blk_grown (g := gb453) (o := .cells #[.string ((rd_T71 l1 (ji15)).f0), .int .i64 ((rd_T71 l1 (ji15)).f1), .int .i64 ((rd_T71 l1 (ji15)).f2), .int .i64 ((rd_T71 l1 (ji15)).f3), .int .i64 ((rd_T71 l1 (ji15)).f4)] 71 (0, 0)) (bkl BK453) hg (Kd.R_ne HO_11.out BK453.out (by decide))); replace HB := Aside0.mk (hb); have HO459 := Aside0.mk (ho); clear HO_11; clear ho hb hg hat))
   go_meet
   case rel => exact ⟨_, (y457), H', ⟨by have := HJ17.out; omega ⟩, ⟨rdl HO459⟩, ⟨bkl BK450⟩, ⟨bkl BK453⟩, ⟨bel2 HB GE450 GE453⟩⟩
  clear HC30
  try clear hcz32_0
  try clear hcz32_1
  try clear hcz32_2
  try clear hcz32_3
  try clear hcz32_4
  try clear hcz33_0
  try clear hcz33_1
  try clear hcz33_2
  try clear hcz33_3
  try clear hcz33_4
  try clear hfz32_0
  try clear hfz32_1
  try clear hfz32_2
  try clear hfz32_3
  try clear hfz32_4
  try clear hfz33_0
  try clear hfz33_1
  try clear hfz33_2
  try clear hfz33_3
  try clear hfz33_4
  obtain ⟨kq, x11_29, HA, HJ29, HO_11, BK450, BK453, HB⟩ := hcut
  cases kq with
  | zero => exact absurd HA.out (by simp [impl_brokenRules.j1])
  | succ kj29 =>
   have H := HA.out
   clear HA
   simp only [impl_brokenRules.j1] at H
   by_cases c37 : ((rd_T71 l1 (ji8)).f3) = 3
   rotate_left
   ·rw [if_neg c37] at H
    have c37b0 : (((rd_T71 l1 (ji8)).f3) == 3) = false := beq_eq_false_iff_ne.mpr c37
    have c37b1 : (((rd_T71 l1 (ji8)).f3) != 3) = true := bne_iff_ne.mpr c37
    by_cases c55 : ((rd_T71 l1 (ji8)).f3) = 2
    rotate_left
    ·rw [if_neg c55] at H
     have c55b0 : (((rd_T71 l1 (ji8)).f3) == 2) = false := beq_eq_false_iff_ne.mpr c55
     have c55b1 : (((rd_T71 l1 (ji8)).f3) != 2) = true := bne_iff_ne.mpr c55
     obtain rfl := Option.some.inj H
     have hnb63 := NB450_453.out
     have hnc63 := NB453_450.out
     have hcz64_0 : wc.cell? ⟨gb450, 0, none⟩ = some (.string ((rd_T71 l1 (ji8)).f0)) := (blk_cell BK450.out 0).trans rfl
     have hcz64_1 : wc.cell? ⟨gb450, 1, none⟩ = some (.int .i64 ((rd_T71 l1 (ji8)).f1)) := (blk_cell BK450.out 1).trans rfl
     have hcz64_2 : wc.cell? ⟨gb450, 2, none⟩ = some (.int .i64 ((rd_T71 l1 (ji8)).f2)) := (blk_cell BK450.out 2).trans rfl
     have hcz64_3 : wc.cell? ⟨gb450, 3, none⟩ = some (.int .i64 ((rd_T71 l1 (ji8)).f3)) := (blk_cell BK450.out 3).trans rfl
     have hcz64_4 : wc.cell? ⟨gb450, 4, none⟩ = some (.int .i64 ((rd_T71 l1 (ji8)).f4)) := (blk_cell BK450.out 4).trans rfl
     have hfz64_0 := blk_frozen BK450.out 0
     have hfz64_1 := blk_frozen BK450.out 1
     have hfz64_2 := blk_frozen BK450.out 2
     have hfz64_3 := blk_frozen BK450.out 3
     have hfz64_4 := blk_frozen BK450.out 4
     go_wp2
     go_ret
     exact ⟨_, by rfl , rdl HO_11, bel2 HB GE450 GE453⟩
    rw [if_pos c55] at H
    have c55b0 : (((rd_T71 l1 (ji8)).f3) == 2) = true := beq_iff_eq.mpr c55
    have c55b1 : (((rd_T71 l1 (ji8)).f3) != 2) = false := bne_eq_false_iff_eq.mpr c55
    clear c55
    by_cases c56 : a3 ≥ a2
    rotate_left
    ·rw [if_neg c56] at H
     have c56b0 : decide (a2 ≤ a3) = false := decide_eq_false c56
     clear c56
     obtain rfl := Option.some.inj H
     have hnb61 := NB450_453.out
     have hnc61 := NB453_450.out
     have hcz62_0 : wc.cell? ⟨gb450, 0, none⟩ = some (.string ((rd_T71 l1 (ji8)).f0)) := (blk_cell BK450.out 0).trans rfl
     have hcz62_1 : wc.cell? ⟨gb450, 1, none⟩ = some (.int .i64 ((rd_T71 l1 (ji8)).f1)) := (blk_cell BK450.out 1).trans rfl
     have hcz62_2 : wc.cell? ⟨gb450, 2, none⟩ = some (.int .i64 ((rd_T71 l1 (ji8)).f2)) := (blk_cell BK450.out 2).trans rfl
     have hcz62_3 : wc.cell? ⟨gb450, 3, none⟩ = some (.int .i64 ((rd_T71 l1 (ji8)).f3)) := (blk_cell BK450.out 3).trans rfl
     have hcz62_4 : wc.cell? ⟨gb450, 4, none⟩ = some (.int .i64 ((rd_T71 l1 (ji8)).f4)) := (blk_cell BK450.out 4).trans rfl
     have hfz62_0 := blk_frozen BK450.out 0
     have hfz62_1 := blk_frozen BK450.out 1
     have hfz62_2 := blk_frozen BK450.out 2
     have hfz62_3 := blk_frozen BK450.out 3
     have hfz62_4 := blk_frozen BK450.out 4
     go_wp2
     go_ret
     exact ⟨_, by rfl , rdl HO_11, bel2 HB GE450 GE453⟩
    rw [if_pos c56] at H
    have c56b0 : decide (a2 ≤ a3) = true := decide_eq_true c56
    clear c56
    by_cases c57 : x11_29.length < 17592186044416
    rotate_left
    ·rw [if_neg c57] at H
     exact absurd H (by simp)
    rw [if_pos c57] at H
    have LMc57 := Aside0.mk c57
    clear c57
    obtain ⟨y466, hy466⟩ : ∃ y_ : List Int, y_ = (x11_29 ++ [4]) := ⟨_, rfl⟩
    replace H : (some y466) = some r := by (rw [hy466]; with_reducible exact H) 
    have Ny466 := Aside0.mk hy466
    clear hy466
    obtain rfl := Option.some.inj H
    have hnb58 := NB450_453.out
    have hnc58 := NB453_450.out
    have hcz59_0 : wc.cell? ⟨gb450, 0, none⟩ = some (.string ((rd_T71 l1 (ji8)).f0)) := (blk_cell BK450.out 0).trans rfl
    have hcz59_1 : wc.cell? ⟨gb450, 1, none⟩ = some (.int .i64 ((rd_T71 l1 (ji8)).f1)) := (blk_cell BK450.out 1).trans rfl
    have hcz59_2 : wc.cell? ⟨gb450, 2, none⟩ = some (.int .i64 ((rd_T71 l1 (ji8)).f2)) := (blk_cell BK450.out 2).trans rfl
    have hcz59_3 : wc.cell? ⟨gb450, 3, none⟩ = some (.int .i64 ((rd_T71 l1 (ji8)).f3)) := (blk_cell BK450.out 3).trans rfl
    have hcz59_4 : wc.cell? ⟨gb450, 4, none⟩ = some (.int .i64 ((rd_T71 l1 (ji8)).f4)) := (blk_cell BK450.out 4).trans rfl
    have hfz59_0 := blk_frozen BK450.out 0
    have hfz59_1 := blk_frozen BK450.out 1
    have hfz59_2 := blk_frozen BK450.out 2
    have hfz59_3 := blk_frozen BK450.out 3
    have hfz59_4 := blk_frozen BK450.out 4
    go_wp2_with (first | ((with_reducible refine gate_builtin (b := .append) (xs := #[.tmp 64, .tmp 65]) rfl ?_); at_builtin; refine Kd.R_append (Kd.int .i64) (w0 := w) w.heap.size rfl (.tmp 64) (.tmp 65) 30 3 (.int .i64 0) 8 rfl Try.underlying30 info3 rfl (by decide) (by omega) u11 x11_29 4 [.int .i64 4] (fun _ => True) (fun _ => False) rfl rfl ?aP (fun _ hk => hk.elim) ?aF ?aO ?aB ?aS ?aL ?_; (case aP => exact rfl); (case aB => exact (bel2 HB GE450 GE453)); (case aF => exact (fun _ _ => trivial)); (case aO => exact (rdl HO_11)); (case aS => exact (below_size (bel2 HB GE450 GE453))); (case aL => have := LMc57.out; omega); intro v467 w60 ho hb hg hat; rw [← Ny466.out] at ho; replace BK450 := Aside0.mk (blk_grown (g := gb450) (o := .cells #[.string ((rd_T71 l1 (ji8)).f0), .int .i64 ((rd_T71 l1 (ji8)).f1), .int .i64 ((rd_T71 l1 (ji8)).f2), .int .i64 ((rd_T71 l1 (ji8)).f3), .int .i64 ((rd_T71 l1 (ji8)).f4)] 71 (0, 0)) (bkl BK450) hg (Kd.R_ne HO_11.out BK450.out (by decide))); replace BK453 := Aside0.mk (blk_grown (g := gb453) (o := .cells #[.string ((rd_T71 l1 (ji15)).f0), .int .i64 ((rd_T71 l1 (ji15)).f1), .int .i64 ((rd_T71 l1 (ji15)).f2), .int .i64 ((rd_T71 l1 (ji15)).f3), .int .i64 ((rd_T71 l1 (ji15)).f4)] 71 (0, 0)) (bkl BK453) hg (Kd.R_ne HO_11.out BK453.out (by decide))); replace HB := Aside0.mk (hb); have HO468 := Aside0.mk (ho); clear HO_11; clear ho hb hg hat))
    go_ret
    exact ⟨_, by rfl , rdl HO468, bel2 HB GE450 GE453⟩
   rw [if_pos c37] at H
   have c37b0 : (((rd_T71 l1 (ji8)).f3) == 3) = true := beq_iff_eq.mpr c37
   have c37b1 : (((rd_T71 l1 (ji8)).f3) != 3) = false := bne_eq_false_iff_eq.mpr c37
   clear c37
   by_cases c38 : x11_29.length < 17592186044416
   rotate_left
   ·rw [if_neg c38] at H
    exact absurd H (by simp)
   rw [if_pos c38] at H
   have LMc38 := Aside0.mk c38
   clear c38
   obtain ⟨y460, hy460⟩ : ∃ y_ : List Int, y_ = (x11_29 ++ [3]) := ⟨_, rfl⟩
   replace H : (if ((rd_T71 l1 (ji8)).f3) = 2 then (if a3 ≥ a2 then (if y460.length < 17592186044416 then (some (y460 ++ [4])) else (none)) else (some y460)) else (some y460)) = some r := by (have H2_ := (Option.bind_some _ _).symm.trans H; rw [hy460]; with_reducible exact H2_) 
   have Ny460 := Aside0.mk hy460
   clear hy460
   by_cases c39 : ((rd_T71 l1 (ji8)).f3) = 2
   rotate_left
   ·rw [if_neg c39] at H
    have c39b0 : (((rd_T71 l1 (ji8)).f3) == 2) = false := beq_eq_false_iff_ne.mpr c39
    have c39b1 : (((rd_T71 l1 (ji8)).f3) != 2) = true := bne_iff_ne.mpr c39
    obtain rfl := Option.some.inj H
    have hnb51 := NB450_453.out
    have hnc51 := NB453_450.out
    have hcz52_0 : wc.cell? ⟨gb450, 0, none⟩ = some (.string ((rd_T71 l1 (ji8)).f0)) := (blk_cell BK450.out 0).trans rfl
    have hcz52_1 : wc.cell? ⟨gb450, 1, none⟩ = some (.int .i64 ((rd_T71 l1 (ji8)).f1)) := (blk_cell BK450.out 1).trans rfl
    have hcz52_2 : wc.cell? ⟨gb450, 2, none⟩ = some (.int .i64 ((rd_T71 l1 (ji8)).f2)) := (blk_cell BK450.out 2).trans rfl
    have hcz52_3 : wc.cell? ⟨gb450, 3, none⟩ = some (.int .i64 ((rd_T71 l1 (ji8)).f3)) := (blk_cell BK450.out 3).trans rfl
    have hcz52_4 : wc.cell? ⟨gb450, 4, none⟩ = some (.int .i64 ((rd_T71 l1 (ji8)).f4)) := (blk_cell BK450.out 4).trans rfl
    have hfz52_0 := blk_frozen BK450.out 0
    have hfz52_1 := blk_frozen BK450.out 1
    have hfz52_2 := blk_frozen BK450.out 2
    have hfz52_3 := blk_frozen BK450.out 3
    have hfz52_4 := blk_frozen BK450.out 4
    go_wp2_with (first | ((with_reducible refine gate_builtin (b := .append) (xs := #[.tmp 53, .tmp 54]) rfl ?_); at_builtin; refine Kd.R_append (Kd.int .i64) (w0 := w) w.heap.size rfl (.tmp 53) (.tmp 54) 30 3 (.int .i64 0) 8 rfl Try.underlying30 info3 rfl (by decide) (by omega) u11 x11_29 3 [.int .i64 3] (fun _ => True) (fun _ => False) rfl rfl ?aP (fun _ hk => hk.elim) ?aF ?aO ?aB ?aS ?aL ?_; (case aP => exact rfl); (case aB => exact (bel2 HB GE450 GE453)); (case aF => exact (fun _ _ => trivial)); (case aO => exact (rdl HO_11)); (case aS => exact (below_size (bel2 HB GE450 GE453))); (case aL => have := LMc38.out; omega); intro v461 w53 ho hb hg hat; rw [← Ny460.out] at ho; replace BK450 := Aside0.mk (blk_grown (g := gb450) (o := .cells #[.string ((rd_T71 l1 (ji8)).f0), .int .i64 ((rd_T71 l1 (ji8)).f1), .int .i64 ((rd_T71 l1 (ji8)).f2), .int .i64 ((rd_T71 l1 (ji8)).f3), .int .i64 ((rd_T71 l1 (ji8)).f4)] 71 (0, 0)) (bkl BK450) hg (Kd.R_ne HO_11.out BK450.out (by decide))); replace BK453 := Aside0.mk (blk_grown (g := gb453) (o := .cells #[.string ((rd_T71 l1 (ji15)).f0), .int .i64 ((rd_T71 l1 (ji15)).f1), .int .i64 ((rd_T71 l1 (ji15)).f2), .int .i64 ((rd_T71 l1 (ji15)).f3), .int .i64 ((rd_T71 l1 (ji15)).f4)] 71 (0, 0)) (bkl BK453) hg (Kd.R_ne HO_11.out BK453.out (by decide))); replace HB := Aside0.mk (hb); have HO462 := Aside0.mk (ho); clear HO_11; clear ho hb hg hat; have hcz54_0 : w53.cell? ⟨gb450, 0, none⟩ = some (.string ((rd_T71 l1 (ji8)).f0)) := (blk_cell BK450.out 0).trans rfl; have hcz54_1 : w53.cell? ⟨gb450, 1, none⟩ = some (.int .i64 ((rd_T71 l1 (ji8)).f1)) := (blk_cell BK450.out 1).trans rfl; have hcz54_2 : w53.cell? ⟨gb450, 2, none⟩ = some (.int .i64 ((rd_T71 l1 (ji8)).f2)) := (blk_cell BK450.out 2).trans rfl; have hcz54_3 : w53.cell? ⟨gb450, 3, none⟩ = some (.int .i64 ((rd_T71 l1 (ji8)).f3)) := (blk_cell BK450.out 3).trans rfl; have hcz54_4 : w53.cell? ⟨gb450, 4, none⟩ = some (.int .i64 ((rd_T71 l1 (ji8)).f4)) := (blk_cell BK450.out 4).trans rfl; have hfz54_0 := blk_frozen BK450.out 0; have hfz54_1 := blk_frozen BK450.out 1; have hfz54_2 := blk_frozen BK450.out 2; have hfz54_3 := blk_frozen BK450.out 3; have hfz54_4 := blk_frozen BK450.out 4))
    go_ret
    exact ⟨_, by rfl , rdl HO462, bel2 HB GE450 GE453⟩
   rw [if_pos c39] at H
   have c39b0 : (((rd_T71 l1 (ji8)).f3) == 2) = true := beq_iff_eq.mpr c39
   have c39b1 : (((rd_T71 l1 (ji8)).f3) != 2) = false := bne_eq_false_iff_eq.mpr c39
   clear c39
   by_cases c40 : a3 ≥ a2
   rotate_left
   ·rw [if_neg c40] at H
    have c40b0 : decide (a2 ≤ a3) = false := decide_eq_false c40
    clear c40
    obtain rfl := Option.some.inj H
    have hnb47 := NB450_453.out
    have hnc47 := NB453_450.out
    have hcz48_0 : wc.cell? ⟨gb450, 0, none⟩ = some (.string ((rd_T71 l1 (ji8)).f0)) := (blk_cell BK450.out 0).trans rfl
    have hcz48_1 : wc.cell? ⟨gb450, 1, none⟩ = some (.int .i64 ((rd_T71 l1 (ji8)).f1)) := (blk_cell BK450.out 1).trans rfl
    have hcz48_2 : wc.cell? ⟨gb450, 2, none⟩ = some (.int .i64 ((rd_T71 l1 (ji8)).f2)) := (blk_cell BK450.out 2).trans rfl
    have hcz48_3 : wc.cell? ⟨gb450, 3, none⟩ = some (.int .i64 ((rd_T71 l1 (ji8)).f3)) := (blk_cell BK450.out 3).trans rfl
    have hcz48_4 : wc.cell? ⟨gb450, 4, none⟩ = some (.int .i64 ((rd_T71 l1 (ji8)).f4)) := (blk_cell BK450.out 4).trans rfl
    have hfz48_0 := blk_frozen BK450.out 0
    have hfz48_1 := blk_frozen BK450.out 1
    have hfz48_2 := blk_frozen BK450.out 2
    have hfz48_3 := blk_frozen BK450.out 3
    have hfz48_4 := blk_frozen BK450.out 4
    go_wp2_with (first | ((with_reducible refine gate_builtin (b := .append) (xs := #[.tmp 53, .tmp 54]) rfl ?_); at_builtin; refine Kd.R_append (Kd.int .i64) (w0 := w) w.heap.size rfl (.tmp 53) (.tmp 54) 30 3 (.int .i64 0) 8 rfl Try.underlying30 info3 rfl (by decide) (by omega) u11 x11_29 3 [.int .i64 3] (fun _ => True) (fun _ => False) rfl rfl ?aP (fun _ hk => hk.elim) ?aF ?aO ?aB ?aS ?aL ?_; (case aP => exact rfl); (case aB => exact (bel2 HB GE450 GE453)); (case aF => exact (fun _ _ => trivial)); (case aO => exact (rdl HO_11)); (case aS => exact (below_size (bel2 HB GE450 GE453))); (case aL => have := LMc38.out; omega); intro v461 w49 ho hb hg hat; rw [← Ny460.out] at ho; replace BK450 := Aside0.mk (blk_grown (g := gb450) (o := .cells #[.string ((rd_T71 l1 (ji8)).f0), .int .i64 ((rd_T71 l1 (ji8)).f1), .int .i64 ((rd_T71 l1 (ji8)).f2), .int .i64 ((rd_T71 l1 (ji8)).f3), .int .i64 ((rd_T71 l1 (ji8)).f4)] 71 (0, 0)) (bkl BK450) hg (Kd.R_ne HO_11.out BK450.out (by decide))); replace BK453 := Aside0.mk (blk_grown (g := gb453) (o := .cells #[.string ((rd_T71 l1 (ji15)).f0), .int .i64 ((rd_T71 l1 (ji15)).f1), .int .i64 ((rd_T71 l1 (ji15)).f2), .int .i64 ((rd_T71 l1 (ji15)).f3), .int .i64 ((rd_T71 l1 (ji15)).f4)] 71 (0, 0)) (bkl BK453) hg (Kd.R_ne HO_11.out BK453.out (by decide))); replace HB := Aside0.mk (hb); have HO462 := Aside0.mk (ho); clear HO_11; clear ho hb hg hat; have hcz50_0 : w49.cell? ⟨gb450, 0, none⟩ = some (.string ((rd_T71 l1 (ji8)).f0)) := (blk_cell BK450.out 0).trans rfl; have hcz50_1 : w49.cell? ⟨gb450, 1, none⟩ = some (.int .i64 ((rd_T71 l1 (ji8)).f1)) := (blk_cell BK450.out 1).trans rfl; have hcz50_2 : w49.cell? ⟨gb450, 2, none⟩ = some (.int .i64 ((rd_T71 l1 (ji8)).f2)) := (blk_cell BK450.out 2).trans rfl; have hcz50_3 : w49.cell? ⟨gb450, 3, none⟩ = some (.int .i64 ((rd_T71 l1 (ji8)).f3)) := (blk_cell BK450.out 3).trans rfl; have hcz50_4 : w49.cell? ⟨gb450, 4, none⟩ = some (.int .i64 ((rd_T71 l1 (ji8)).f4)) := (blk_cell BK450.out 4).trans rfl; have hfz50_0 := blk_frozen BK450.out 0; have hfz50_1 := blk_frozen BK450.out 1; have hfz50_2 := blk_frozen BK450.out 2; have hfz50_3 := blk_frozen BK450.out 3; have hfz50_4 := blk_frozen BK450.out 4))
    go_ret
    exact ⟨_, by rfl , rdl HO462, bel2 HB GE450 GE453⟩
   rw [if_pos c40] at H
   have c40b0 : decide (a2 ≤ a3) = true := decide_eq_true c40
   clear c40
   by_cases c41 : y460.length < 17592186044416
   rotate_left
   ·rw [if_neg c41] at H
    exact absurd H (by simp)
   rw [if_pos c41] at H
   have LMc41 := Aside0.mk c41
   clear c41
   obtain ⟨y463, hy463⟩ : ∃ y_ : List Int, y_ = (y460 ++ [4]) := ⟨_, rfl⟩
   replace H : (some y463) = some r := by (rw [hy463]; with_reducible exact H) 
   have Ny463 := Aside0.mk hy463
   clear hy463
   obtain rfl := Option.some.inj H
   have hnb42 := NB450_453.out
   have hnc42 := NB453_450.out
   have hcz43_0 : wc.cell? ⟨gb450, 0, none⟩ = some (.string ((rd_T71 l1 (ji8)).f0)) := (blk_cell BK450.out 0).trans rfl
   have hcz43_1 : wc.cell? ⟨gb450, 1, none⟩ = some (.int .i64 ((rd_T71 l1 (ji8)).f1)) := (blk_cell BK450.out 1).trans rfl
   have hcz43_2 : wc.cell? ⟨gb450, 2, none⟩ = some (.int .i64 ((rd_T71 l1 (ji8)).f2)) := (blk_cell BK450.out 2).trans rfl
   have hcz43_3 : wc.cell? ⟨gb450, 3, none⟩ = some (.int .i64 ((rd_T71 l1 (ji8)).f3)) := (blk_cell BK450.out 3).trans rfl
   have hcz43_4 : wc.cell? ⟨gb450, 4, none⟩ = some (.int .i64 ((rd_T71 l1 (ji8)).f4)) := (blk_cell BK450.out 4).trans rfl
   have hfz43_0 := blk_frozen BK450.out 0
   have hfz43_1 := blk_frozen BK450.out 1
   have hfz43_2 := blk_frozen BK450.out 2
   have hfz43_3 := blk_frozen BK450.out 3
   have hfz43_4 := blk_frozen BK450.out 4
   go_wp2_with (first | ((with_reducible refine gate_builtin (b := .append) (xs := #[.tmp 53, .tmp 54]) rfl ?_); at_builtin; refine Kd.R_append (Kd.int .i64) (w0 := w) w.heap.size rfl (.tmp 53) (.tmp 54) 30 3 (.int .i64 0) 8 rfl Try.underlying30 info3 rfl (by decide) (by omega) u11 x11_29 3 [.int .i64 3] (fun _ => True) (fun _ => False) rfl rfl ?aP (fun _ hk => hk.elim) ?aF ?aO ?aB ?aS ?aL ?_; (case aP => exact rfl); (case aB => exact (bel2 HB GE450 GE453)); (case aF => exact (fun _ _ => trivial)); (case aO => exact (rdl HO_11)); (case aS => exact (below_size (bel2 HB GE450 GE453))); (case aL => have := LMc38.out; omega); intro v461 w44 ho hb hg hat; rw [← Ny460.out] at ho; replace BK450 := Aside0.mk (blk_grown (g := gb450) (o := .cells #[.string ((rd_T71 l1 (ji8)).f0), .int .i64 ((rd_T71 l1 (ji8)).f1), .int .i64 ((rd_T71 l1 (ji8)).f2), .int .i64 ((rd_T71 l1 (ji8)).f3), .int .i64 ((rd_T71 l1 (ji8)).f4)] 71 (0, 0)) (bkl BK450) hg (Kd.R_ne HO_11.out BK450.out (by decide))); replace BK453 := Aside0.mk (blk_grown (g := gb453) (o := .cells #[.string ((rd_T71 l1 (ji15)).f0), .int .i64 ((rd_T71 l1 (ji15)).f1), .int .i64 ((rd_T71 l1 (ji15)).f2), .int .i64 ((rd_T71 l1 (ji15)).f3), .int .i64 ((rd_T71 l1 (ji15)).f4)] 71 (0, 0)) (bkl BK453) hg (Kd.R_ne HO_11.out BK453.out (by decide))); replace HB := Aside0.mk (hb); have HO462 := Aside0.mk (ho); clear HO_11; clear ho hb hg hat; have hcz45_0 : w44.cell? ⟨gb450, 0, none⟩ = some (.string ((rd_T71 l1 (ji8)).f0)) := (blk_cell BK450.out 0).trans rfl; have hcz45_1 : w44.cell? ⟨gb450, 1, none⟩ = some (.int .i64 ((rd_T71 l1 (ji8)).f1)) := (blk_cell BK450.out 1).trans rfl; have hcz45_2 : w44.cell? ⟨gb450, 2, none⟩ = some (.int .i64 ((rd_T71 l1 (ji8)).f2)) := (blk_cell BK450.out 2).trans rfl; have hcz45_3 : w44.cell? ⟨gb450, 3, none⟩ = some (.int .i64 ((rd_T71 l1 (ji8)).f3)) := (blk_cell BK450.out 3).trans rfl; have hcz45_4 : w44.cell? ⟨gb450, 4, none⟩ = some (.int .i64 ((rd_T71 l1 (ji8)).f4)) := (blk_cell BK450.out 4).trans rfl; have hfz45_0 := blk_frozen BK450.out 0; have hfz45_1 := blk_frozen BK450.out 1; have hfz45_2 := blk_frozen BK450.out 2; have hfz45_3 := blk_frozen BK450.out 3; have hfz45_4 := blk_frozen BK450.out 4) | ((with_reducible refine gate_builtin (b := .append) (xs := #[.tmp 64, .tmp 65]) rfl ?_); at_builtin; refine Kd.R_append (Kd.int .i64) (w0 := w) w.heap.size rfl (.tmp 64) (.tmp 65) 30 3 (.int .i64 0) 8 rfl Try.underlying30 info3 rfl (by decide) (by omega) v461 y460 4 [.int .i64 4] (fun _ => True) (fun _ => False) rfl rfl ?aP (fun _ hk => hk.elim) ?aF ?aO ?aB ?aS ?aL ?_; (case aP => exact rfl); (case aB => exact (bel2 HB GE450 GE453)); (case aF => exact (fun _ _ => trivial)); (case aO => exact (rdl HO462)); (case aS => exact (below_size (bel2 HB GE450 GE453))); (case aL => have := LMc41.out; omega); intro v464 w46 ho hb hg hat; rw [← Ny463.out] at ho; replace BK450 := Aside0.mk (blk_grown (g := gb450) (o := .cells #[.string ((rd_T71 l1 (ji8)).f0), .int .i64 ((rd_T71 l1 (ji8)).f1), .int .i64 ((rd_T71 l1 (ji8)).f2), .int .i64 ((rd_T71 l1 (ji8)).f3), .int .i64 ((rd_T71 l1 (ji8)).f4)] 71 (0, 0)) (bkl BK450) hg (Kd.R_ne HO462.out BK450.out (by decide))); replace BK453 := Aside0.mk (blk_grown (g := gb453) (o := .cells #[.string ((rd_T71 l1 (ji15)).f0), .int .i64 ((rd_T71 l1 (ji15)).f1), .int .i64 ((rd_T71 l1 (ji15)).f2), .int .i64 ((rd_T71 l1 (ji15)).f3), .int .i64 ((rd_T71 l1 (ji15)).f4)] 71 (0, 0)) (bkl BK453) hg (Kd.R_ne HO462.out BK453.out (by decide))); replace HB := Aside0.mk (hb); have HO465 := Aside0.mk (ho); clear HO462; clear ho hb hg hat))
   go_ret
   exact ⟨_, by rfl , rdl HO465, bel2 HB GE450 GE453⟩
end Go.Proofs.Ytemildnlfjijmaa.P
