-- Written by a program of this session over the translation (a variant of the printer, see wip/gen); Lean checks it.
import Derived.Test.YtemildnlfjijmaaVC
import Derived.Test.YtemildnlfjijmaaPx0
import Derived.Test.YtemildnlfjijmaaPx1
import Derived.Test.YtemildnlfjijmaaPx3
import Derived.Test.YtemildnlfjijmaaPx4
namespace Go.Proofs.Ytemildnlfjijmaa.P
open Go.RowKit Go.Proofs.YtemildnlfjijmaaW.PrintWords Go.Proofs.YtemildnlfjijmaaW.PrintLast Go.Proofs.YtemildnlfjijmaaW.PrintMore
attribute [local go_sem] Go.Proofs.Ytemildnlfjijmaa.V.isSome_setCell max2_int min2_int max_two min_two max_three min_three max_four min_four
set_option linter.unusedVariables false
set_option linter.unusedSimpArgs false
/-! ### spec_l1Cur_yard: function 51 -/
mutual
def spec_l1Cur_yard.l0 : Nat → Int → List Int → Int → Int → List (List Int) → Option ((List (List Int)) × Int × Int)
 | 0, _, _, _, _, _ => none
 | k + 1, x4, x1000, x1001, x1002, x277000 => if x4 > 0 then (if x277000.length < 5864062014805 then (spec_l1Cur_yard.l0 k (wrap64 (x4 - 1)) x1000 x1001 x1002 (x277000 ++ [(([] : List Int))])) else (none)) else ((spec_l1Cur_pick.f x1000 x1001 x1002 8).bind fun bt286 => (spec_l1Cur_yard.l1 k (wrap64 (1 + bt286.1)) x1000 bt286.2.1 bt286.2.2 x277000))
def spec_l1Cur_yard.l1 : Nat → Int → List Int → Int → Int → List (List Int) → Option ((List (List Int)) × Int × Int)
 | 0, _, _, _, _, _ => none
 | k + 1, x5, x1000, x1001, x1002, x277000 => if x5 > 0 then ((spec_l1Cur_pick.f x1000 x1001 x1002 (x277000.length : Int)).bind fun bt289 => (if 0 ≤ bt289.1 then (if bt289.1 < (x277000.length : Int) then (if ((rd_L4 x277000 bt289.1).length : Int) < 4 then (if (rd_L4 x277000 bt289.1).length < 17592186044416 then (spec_l1Cur_yard.l1 k (wrap64 (x5 - 1)) x1000 bt289.2.1 bt289.2.2 (x277000.set (bt289.1 : Int).toNat ((rd_L4 x277000 bt289.1) ++ [x5]))) else (none)) else (spec_l1Cur_yard.l1 k (wrap64 (x5 - 1)) x1000 bt289.2.1 bt289.2.2 x277000)) else (none)) else (none))) else ((spec_l1Cur_pick.f x1000 x1001 x1002 4).bind fun bt298 => (spec_l1Cur_yard.l2 k bt298.1 x1000 bt298.2.1 bt298.2.2 x277000))
def spec_l1Cur_yard.l2 : Nat → Int → List Int → Int → Int → List (List Int) → Option ((List (List Int)) × Int × Int)
 | 0, _, _, _, _, _ => none
 | k + 1, x7, x1000, x1001, x1002, x277000 => if x7 > 0 then ((spec_l1Cur_pick.f x1000 x1001 x1002 (x277000.length : Int)).bind fun bt304 => ((spec_l1Cur_pick.f x1000 bt304.2.1 bt304.2.2 (x277000.length : Int)).bind fun bt307 => (if bt304.1 = bt307.1 then (spec_l1Cur_yard.l2 k (wrap64 (x7 - 1)) x1000 bt307.2.1 bt307.2.2 x277000) else (if 0 ≤ bt304.1 then (if bt304.1 < (x277000.length : Int) then (if ((rd_L4 x277000 bt304.1).length : Int) > 0 then (if 0 ≤ bt307.1 then (if bt307.1 < (x277000.length : Int) then (if ((rd_L4 x277000 bt307.1).length : Int) < 4 then ((spec_l5Move.f k x277000 bt304.1 bt307.1).bind fun t312 => (spec_l1Cur_yard.l2 k (wrap64 (x7 - 1)) x1000 bt307.2.1 bt307.2.2 t312)) else (spec_l1Cur_yard.l2 k (wrap64 (x7 - 1)) x1000 bt307.2.1 bt307.2.2 x277000)) else (none)) else (none)) else (spec_l1Cur_yard.l2 k (wrap64 (x7 - 1)) x1000 bt307.2.1 bt307.2.2 x277000)) else (none)) else (none))))) else ((spec_l5Own.f k x277000).bind fun t301 => (some (t301, x1001, x1002)))
end
def spec_l1Cur_yard.f (k : Nat) (s0_0 : List Int) (s0_1 : Int) (s0_2 : Int) : Option ((List (List Int)) × Int × Int) := (spec_l1Cur_pick.f s0_0 s0_1 s0_2 4).bind fun bt277 => (spec_l1Cur_yard.l0 k (wrap64 (1 + bt277.1)) s0_0 bt277.2.1 bt277.2.2 ([] : List (List Int)))
def spec_l1Cur_yard.T11 : Bool × List (List Nat × List Nat) := (true, [([], []), ([0], [0]), ([], []), ([], []), ([3], [3]), ([], []), ([4, 5], [4, 5]), ([6], [6]), ([], []), ([8], [8]), ([7, 9], [7, 9]), ([1, 2, 0, 1, 2, 3, 4, 5, 6, 7, 8, 9, 10], [1, 2]), ([11, 10, 10, 0, 1, 2, 3, 4, 5, 6, 7, 8, 9, 10], [10, 11])])
def spec_l1Cur_yard.B11 : List Nat := [0, 1, 0, 0, 8, 0, 56, 120, 0, 256, 1016, 2047, 4095]
theorem spec_l1Cur_yard.tab11 : rtab .any (opsOf Try.f51 11) = spec_l1Cur_yard.T11 := by kernel_rfl
theorem spec_l1Cur_yard.bits11 : waitsOk spec_l1Cur_yard.T11.2 spec_l1Cur_yard.B11 = true := by kernel_rfl
def spec_l1Cur_yard.T15 : Bool × List (List Nat × List Nat) := (true, [([], []), ([], []), ([1], [1]), ([2], [2]), ([0, 3], [0, 3]), ([], []), ([], []), ([6], [6]), ([7], [7]), ([5, 8, 4], [5, 8]), ([4, 9, 0, 1, 2, 3, 4], [4]), ([9, 10, 0, 1, 2, 3, 4, 5, 6, 7, 8, 9, 10], [9])])
def spec_l1Cur_yard.B15 : List Nat := [0, 0, 2, 6, 15, 0, 0, 64, 192, 511, 1023, 2047]
theorem spec_l1Cur_yard.tab15 : rtab .any (opsOf Try.f51 15) = spec_l1Cur_yard.T15 := by kernel_rfl
theorem spec_l1Cur_yard.bits15 : waitsOk spec_l1Cur_yard.T15.2 spec_l1Cur_yard.B15 = true := by kernel_rfl
set_option maxHeartbeats 8000000 in
set_option maxRecDepth 100000 in
theorem spec_l1Cur_yard.calls (k : Nat) (g : Nat) (s0_0 : List Int) (s0_1 : Int) (s0_2 : Int) (r1 : List (List Int)) (r2 : Int) (r3 : Int) (w0 w : World) (hI : IsS47 w0 w g s0_0 s0_1 s0_2) (hB : Below w0.heap.size w0 w) (h : spec_l1Cur_yard.f k s0_0 s0_1 s0_2 = some (r1, r2, r3)) :
  Calls Try.prog 51 #[.pointer (some ⟨g, 0, none⟩)] w fun e w' => ∃ v0_ : Value, e = .returned (.agg #[v0_]) ∧ Kd.S (Kd.slice 3 (Kd.int .i64)) 30 w' w.heap.size (fun _ => True) v0_ r1 ∧ IsS47 w0 w' g s0_0 r2 r3 ∧ Below w0.heap.size w0 w' ∧ KeepBut w w' g none := by
 have hu26 := Try.underlying26
 have HI0 := Aside0.mk hI
 have HK := Aside0.mk (KeepBut.refl w g none)
 have HL := Aside0.mk hB.size
 clear hI
 have HW0 := Aside0.mk hB.size
 have HB := Aside0.mk hB
 clear hB
 have H : ((spec_l1Cur_pick.f s0_0 s0_1 s0_2 4).bind fun bt277 => (spec_l1Cur_yard.l0 k (wrap64 (1 + bt277.1)) s0_0 bt277.2.1 bt277.2.2 ([] : List (List Int)))) = some (r1, r2, r3) := h
 clear h
 obtain ⟨⟨t277, t278, t279⟩, A2, H⟩ := bnd H
 try dsimp only at H
 have H' := Aside0.mk H
 clear H
 go_enter Try.func51, Try.ntmps51
 go_wp2_with (first | ((with_reducible refine gate_dst (N := 2) rfl ?_); (try (refine gate_guard (by rfl) ?_; dsimp only)); refine box_event ?hg (N := 2) ?hd (cs := #[.slice none 0 0]) (t := 26) ?hr ?_; (case hd | hg => rfl); (case hr => go_simp); intro gb275 hg w3 hbox hb; replace HB := Aside0.mk (below_step (belA HB) hb); have BK275 := Aside0.mk (hbox); have GW275 := gsk hg (kee HK); have GE275 := gswk HW0 hg (kee HK); replace HK := Aside0.mk (KeepBut.trans (kee HK) (KeepBut.of_below hb g none) (.inl rfl)); have NB0_275 := nll hg (IsS47.lt (IsS47.to HI0)); have NB275_0 := nlr hg (IsS47.lt (IsS47.to HI0)); replace HI0 := Aside0.mk (IsS47.below (IsS47.to HI0) hb); clear hb hbox hg) | ((with_reducible refine gate_dst (N := 3) rfl ?_); (try (refine gate_guard (by rfl) ?_; dsimp only)); refine box_event ?hg (N := 3) ?hd (cs := #[.slice none 0 0]) (t := 26) ?hr ?_; (case hd | hg => rfl); (case hr => go_simp); intro gb276 hg w4 hbox hb; replace HB := Aside0.mk (below_step (belA HB) hb); have BK276 := Aside0.mk (hbox); have GW276 := gsk hg (kee HK); have GE276 := gswk HW0 hg (kee HK); replace HK := Aside0.mk (KeepBut.trans (kee HK) (KeepBut.of_below hb g none) (.inl rfl)); have NB275_276 := nbl hg BK275; have NB276_275 := nbr hg BK275; replace BK275 := bkb BK275 hb; have NB0_276 := nll hg (IsS47.lt (IsS47.to HI0)); have NB276_0 := nlr hg (IsS47.lt (IsS47.to HI0)); replace HI0 := Aside0.mk (IsS47.below (IsS47.to HI0) hb); clear hb hbox hg; have hnb5 := NB276_275.out; have hnc5 := NB275_276.out; have hnb6 := NB276_0.out; have hnc6 := NB0_276.out; have hcz7_0 := bc BK276 0; have hfz7_0 := blk_frozen BK276.out 0) | ((with_reducible refine gate_callee (f := 16) rfl ?_); refine goesL_ (some 12) rfl rfl Try.func16 (by kernel_rfl) rfl #[.pointer (some ⟨g, 0, none⟩), .int .i64 4] rfl gmp ?_; (with_reducible refine (spec_l1Cur_pick.calls g s0_0 s0_1 s0_2 4 t277 t278 t279 w0 _ ?side1 ?side2 A2.out).mono ?_); (case side1 => exact IsS47.to HI0); (case side2 => exact belA HB); rintro e w8 ⟨rfl, hi, hb, hk⟩; refine ⟨_, rfl, ?_⟩; replace BK275 := Aside0.mk (KeepBut.blk hk (g' := gb275) (o := .cells #[.slice none 0 0] 26 (0, 0)) (blk_far BK275.out NB275_276.out _) NB275_0.out (by simp)); replace BK276 := Aside0.mk (KeepBut.blk hk (g' := gb276) (o := .cells #[.slice none 0 0] 26 (0, 0)) (blk_put BK276.out 0 _ rfl) NB276_0.out (by simp)); replace HK := Aside0.mk (KeepBut.trans (kee HK) hk (.inl rfl)); replace HB := Aside0.mk (hb); replace HI0 := Aside0.mk (hi); clear hb hk hi))
 go_loopg [4] k (fun kq v4 w' => ∃ (x4_1 : Int) (x277000_1 : List (List Int)) (u277000 : Value), v4 = .int .i64 x4_1 ∧ Aside0 (spec_l1Cur_yard.l0 kq x4_1 s0_0 t278 t279 x277000_1 = some (r1, r2, r3)) ∧ Aside0 (kq ≤ k) ∧ Aside0 (Kd.S (Kd.slice 3 (Kd.int .i64)) 30 w' w.heap.size (fun _ => True) u277000 x277000_1) ∧ Aside0 (w'.heap[gb275]? = some (.cells #[(.slice none 0 0)] 26 (0, 0))) ∧ Aside0 (w'.heap[gb276]? = some (.cells #[u277000] 26 (0, 0))) ∧ Aside0 (IsS47 w0 w' g s0_0 t278 t279) ∧ Aside0 (KeepBut w w' g none) ∧ Aside0 (Below w0.heap.size w0 w'))
 case atStart => exact ⟨(wrap64 (1 + t277)), (([] : List (List Int))), (.slice none 0 0), (by rfl ), H', ⟨Nat.le_refl _⟩, ⟨by exact Kd.S_nil _ _ _ _ _ ⟩, ⟨bkl BK275⟩, ⟨bkl BK276⟩, ⟨IsS47.to HI0⟩, ⟨kee HK⟩, ⟨belA HB⟩⟩
 clear H'
 try clear hcz7_0
 try clear hfz7_0
 obtain ⟨x4_1, x277000_1, u277000, rfl, HA, HK1, HO_277000, BK275, BK276, HI0, HK, HB⟩ := hrel
 cases gk with
 | zero => exact absurd HA.out (by simp [spec_l1Cur_yard.l0])
 | succ k1 =>
  have H := HA.out
  clear HA
  simp only [spec_l1Cur_yard.l0] at H
  by_cases c9 : x4_1 > 0
  ·rw [if_pos c9] at H
   have c9b0 : decide (0 < x4_1) = true := decide_eq_true c9
   clear c9
   obtain ⟨y280, hy280⟩ : ∃ y_ : List Int, y_ = (([] : List Int)) := ⟨_, rfl⟩
   replace H : (if x277000_1.length < 5864062014805 then (spec_l1Cur_yard.l0 k1 (wrap64 (x4_1 - 1)) s0_0 t278 t279 (x277000_1 ++ [y280])) else (none)) = some (r1, r2, r3) := by (rw [hy280]; with_reducible exact H) 
   have Ny280 := Aside0.mk hy280
   clear hy280
   by_cases c10 : x277000_1.length < 5864062014805
   rotate_left
   ·rw [if_neg c10] at H
    exact absurd H (by simp)
   rw [if_pos c10] at H
   have LMc10 := Aside0.mk c10
   clear c10
   obtain ⟨y283, hy283⟩ : ∃ y_ : List (List Int), y_ = (x277000_1 ++ [y280]) := ⟨_, rfl⟩
   replace H : (spec_l1Cur_yard.l0 k1 (wrap64 (x4_1 - 1)) s0_0 t278 t279 y283) = some (r1, r2, r3) := by (rw [hy283]; with_reducible exact H) 
   have Ny283 := Aside0.mk hy283
   clear hy283
   have H' := Aside0.mk H
   clear H
   have hnb11 := NB276_275.out
   have hnc11 := NB275_276.out
   have hnb12 := NB276_0.out
   have hnc12 := NB0_276.out
   have hcz13_0 := bc BK276 0
   have hfz13_0 := blk_frozen BK276.out 0
   go_wp2_with (first | ((with_reducible refine gate_dst (N := 20) rfl ?_); (try (refine gate_guard (by rfl) ?_; dsimp only)); refine Kd.R_lit (Kd.int .i64) _ 3 ?hg (N := 20) ?hd (xs := ([] : List Int)) (inner := []) (ok := fun _ => True) (okp := fun _ => True) ?hr ?hp (fun _ hk => hk) trivial (Below.refl _ _) (Nat.le_refl _) (by simp) ?_; (case hd | hg => rfl); (case hr => go_simp); (case hp => exact (Reps.none _ _)); intro v281 w14 ho15 hb hg_ hnew_; clear hg_ hnew_; (rw [← Ny280.out] at ho15 ); replace HO_277000 := Aside0.mk (Kd.S_elder' (sdl HO_277000) (Kd.R_base ho15) hb); have HO282 := Aside0.mk (Kd.R_lower ho15 (keep_size (w := w) (g := g) (row := none) (kee HK))); replace BK275 := bkb BK275 hb; replace BK276 := bkb BK276 hb; replace HI0 := Aside0.mk (IsS47.below (IsS47.to HI0) hb); replace HK := Aside0.mk (KeepBut.trans (kee HK) (KeepBut.of_below hb g none) (.inl rfl)); replace HB := Aside0.mk (below_step (belA HB) hb); clear hb ho15; obtain ⟨Ao17, co17, eo17⟩ := Kd.R_slice HO282.out; subst eo17) | ((with_reducible refine gate_builtin (b := .append) (xs := #[.tmp 19, .tmp 21]) rfl ?_); (try (refine gate_guard (by rfl) ?_; dsimp only)); at_builtin; refine Kd.S_append (Kd.slice 3 (Kd.int .i64)) w.heap.size rfl (.tmp 19) (.tmp 21) 24 30 (.slice none 0 0) 24 rfl Try.underlying24 info30 rfl (by decide) (by omega) u277000 x277000_1 y280 [.slice Ao17 y280.length co17] (fun _ => True) (fun k_ => some k_ = (.slice Ao17 y280.length co17 : Value).ownBlock) rfl rfl ?aP (fun k_ hk_ => ((Kd.R_mono (ok' := fun k_ => ((fun _ => True)) k_ ∧ some k_ ≠ (u277000 : Value).ownBlock) (Kd.R_apart' (HO282.out) (Kd.S_typed HO_277000.out) (by decide)) (fun k_ hk => ⟨trivial, hk.2⟩))).1 k_ hk_.symm) ?aF ?aO (Below.refl _ _) ?aS ?aL ?_; (case aP => exact Kd.M_row (Kd.R_mono (Kd.R_tight rfl (Kd.R_mono (ok' := fun k_ => ((fun _ => True)) k_ ∧ some k_ ≠ (u277000 : Value).ownBlock) (Kd.R_apart' (HO282.out) (Kd.S_typed HO_277000.out) (by decide)) (fun k_ hk => ⟨trivial, hk.2⟩))) (fun _ h_ => h_))); (case aF => exact (fun _ _ => trivial)); (case aO => exact (by exact Kd.S_mono HO_277000.out (fun k_ hk => ⟨trivial, fun e_ => hk.2 e_⟩))); (case aS => exact (keep_size (w := w) (g := g) (row := none) (kee HK))); (case aL => have := LMc10.out; omega); intro v284 w16 ho hb hg hat; rw [← Ny283.out] at ho; replace BK275 := Aside0.mk (blk_grown (g := gb275) (o := .cells #[.slice none 0 0] 26 (0, 0)) (bkl BK275) hg (Kd.S_ne HO_277000.out BK275.out (by decide))); replace BK276 := Aside0.mk (blk_grown (g := gb276) (o := .cells #[u277000] 26 (0, 0)) (bkl BK276) hg (Kd.S_ne HO_277000.out BK276.out (by decide))); replace HI0 := Aside0.mk (IsS47.grown (IsS47.to HI0) hg (IsS47.own_neS HI0.out HO_277000.out (by decide))); replace HB := Aside0.mk (below_weaken (belA HB) HL.out hb); replace HK := Aside0.mk (KeepBut.trans (kee HK) (KeepBut.of_grown hg g) (Kd.S_base2 HO_277000.out)); have HO285 := Aside0.mk (ho); clear HO_277000; clear HO282; clear ho hb hg hat; obtain ⟨Ao18, co18, eo18⟩ := Kd.S_slice HO285.out; subst eo18; obtain ⟨_, _⟩ := bf1 BK276))
   go_roundg k1
   case measure => have := HK1.out; omega
   case rel => exact ⟨(wrap64 (x4_1 - 1)), (y283), (.slice Ao18 y283.length co18), (by rfl ), H', ⟨by have := HK1.out; omega⟩, ⟨by exact Kd.S_mono (Kd.S_far (p := ⟨gb276, 0, none⟩) (Kd.S_types HO285.out BK276.out (by decide)) (fun _ hk => hk.2) (.slice Ao18 y283.length co18)) (fun _ hk => trivial)⟩, ⟨by refine blk_far ?_ NB275_276.out _; exact BK275.out⟩, ⟨by refine blk_put (cs := #[u277000]) ?_ 0 _ rfl; exact BK276.out⟩, ⟨IsS47.to HI0⟩, ⟨kee HK⟩, ⟨belA HB⟩⟩
  rw [if_neg c9] at H
  have c9b0 : decide (0 < x4_1) = false := decide_eq_false c9
  clear c9
  obtain ⟨⟨t286, t287, t288⟩, A20, H⟩ := bnd H
  try dsimp only at H
  have H' := Aside0.mk H
  clear H
  go_wp2_with (first | ((with_reducible refine gate_callee (f := 16) rfl ?_); refine goesL_ (some 25) rfl rfl Try.func16 (by kernel_rfl) rfl #[.pointer (some ⟨g, 0, none⟩), .int .i64 8] rfl gmp ?_; (with_reducible refine (spec_l1Cur_pick.calls g s0_0 t278 t279 8 t286 t287 t288 w0 _ ?side1 ?side2 A20.out).mono ?_); (case side1 => exact IsS47.to HI0); (case side2 => exact belA HB); rintro e w21 ⟨rfl, hi, hb, hk⟩; refine ⟨_, rfl, ?_⟩; replace HO_277000 := Aside0.mk (Kd.S_mono (Kd.S_keep (IsS47.apartS (show IsS47 w0 _ g s0_0 t278 t279 from IsS47.to HI0) (sdl HO_277000) (by decide)) hk (fun _ h => h.2)) (fun _ h => h.1)); replace BK275 := kbk hk BK275 NB275_0; replace BK276 := kbk hk BK276 NB276_0; replace HK := Aside0.mk (KeepBut.trans (kee HK) hk (.inl rfl)); replace HB := Aside0.mk (hb); replace HI0 := Aside0.mk (hi); clear hb hk hi))
  go_loopg [5] k1 (fun kq v5 w' => ∃ (x5_2 : Int) (x1001_2 : Int) (x1002_2 : Int) (x277000_2 : List (List Int)) (u277000 : Value), v5 = .int .i64 x5_2 ∧ Aside0 (spec_l1Cur_yard.l1 kq x5_2 s0_0 x1001_2 x1002_2 x277000_2 = some (r1, r2, r3)) ∧ Aside0 (kq ≤ k1) ∧ Aside0 (Kd.S (Kd.slice 3 (Kd.int .i64)) 30 w' w.heap.size (fun _ => True) u277000 x277000_2) ∧ Aside0 (w'.heap[gb275]? = some (.cells #[(.slice none 0 0)] 26 (0, 0))) ∧ Aside0 (w'.heap[gb276]? = some (.cells #[u277000] 26 (0, 0))) ∧ Aside0 (IsS47 w0 w' g s0_0 x1001_2 x1002_2) ∧ Aside0 (KeepBut w w' g none) ∧ Aside0 (Below w0.heap.size w0 w'))
  case atStart => exact ⟨(wrap64 (1 + t286)), (t287), (t288), (x277000_1), (u277000), (by rfl ), H', ⟨Nat.le_refl _⟩, ⟨sdl HO_277000⟩, ⟨bkl BK275⟩, ⟨bkl BK276⟩, ⟨IsS47.to HI0⟩, ⟨kee HK⟩, ⟨belA HB⟩⟩
  clear H'
  try clear c9b0
  obtain ⟨x5_2, x1001_2, x1002_2, x277000_2, u277000, rfl, HA, HK2, HO_277000, BK275, BK276, HI0, HK, HB⟩ := hrel
  cases gk with
  | zero => exact absurd HA.out (by simp [spec_l1Cur_yard.l1])
  | succ k2 =>
   have H := HA.out
   clear HA
   simp only [spec_l1Cur_yard.l1] at H
   by_cases c22 : x5_2 > 0
   ·rw [if_pos c22] at H
    have c22b0 : decide (0 < x5_2) = true := decide_eq_true c22
    clear c22
    obtain ⟨⟨t289, t290, t291⟩, A23, H⟩ := bnd H
    try dsimp only at H
    by_cases c24 : 0 ≤ t289
    rotate_left
    ·rw [if_neg c24] at H
     exact absurd H (by simp)
    rw [if_pos c24] at H
    have c24b0 : decide (0 ≤ t289) = true := decide_eq_true c24
    clear c24
    by_cases c25 : t289 < (x277000_2.length : Int)
    rotate_left
    ·rw [if_neg c25] at H
     exact absurd H (by simp)
    rw [if_pos c25] at H
    have c25b0 : decide (t289 < (x277000_2.length : Int)) = true := decide_eq_true c25
    clear c25
    by_cases c26 : ((rd_L4 x277000_2 t289).length : Int) < 4
    rotate_left
    ·rw [if_neg c26] at H
     have c26b0 : decide (((rd_L4 x277000_2 t289).length : Int) < 4) = false := decide_eq_false c26
     have c26b1 : decide ((rd_L4 x277000_2 t289).length < 4) = false := decide_eq_false (by omega)
     clear c26
     have H' := Aside0.mk H
     clear H
     have hnb41 := NB276_275.out
     have hnc41 := NB275_276.out
     have hnb42 := NB276_0.out
     have hnc42 := NB0_276.out
     have hcz43_0 := bc BK276 0
     have hfz43_0 := blk_frozen BK276.out 0
     obtain ⟨Ao44, co44, eo44⟩ := Kd.S_slice HO_277000.out
     subst eo44
     go_wp2_with (first | ((with_reducible refine gate_callee (f := 16) rfl ?_); refine goesL_ (some 35) rfl rfl Try.func16 (by kernel_rfl) rfl #[.pointer (some ⟨g, 0, none⟩), .int .i64 (x277000_2.length : Int)] rfl gmp ?_; (with_reducible refine (spec_l1Cur_pick.calls g s0_0 x1001_2 x1002_2 (x277000_2.length : Int) t289 t290 t291 w0 _ ?side1 ?side2 A23.out).mono ?_); (case side1 => exact IsS47.to HI0); (case side2 => exact belA HB); rintro e w45 ⟨rfl, hi, hb, hk⟩; refine ⟨_, rfl, ?_⟩; replace HO_277000 := Aside0.mk (Kd.S_mono (Kd.S_keep (IsS47.apartS (show IsS47 w0 _ g s0_0 x1001_2 x1002_2 from IsS47.to HI0) (sdl HO_277000) (by decide)) hk (fun _ h => h.2)) (fun _ h => h.1)); replace BK275 := kbk hk BK275 NB275_0; replace BK276 := kbk hk BK276 NB276_0; replace HK := Aside0.mk (KeepBut.trans (kee HK) hk (.inl rfl)); replace HB := Aside0.mk (hb); replace HI0 := Aside0.mk (hi); clear hb hk hi; obtain ⟨_, _⟩ := bf1 BK276; have p292 : 0 ≤ (t289 : Int) := oda; have q292 : t289 < (x277000_2.length : Int) := oda; obtain ⟨ad292, A292_0, c292_0, e292, hx292_0, hl292_0, hi292_0⟩ := at_L4 (Kd.S_reads' HO_277000.out).2.2 t289 p292 q292; cases e292; obtain ⟨ce292, hce292, hMe292, hcc292⟩ := Kd.S_get HO_277000.out [] t289 p292 (by exact q292 ); obtain ⟨ve292_0, rfl, ge292_0⟩ := hMe292; have hv292_0 := hcc292 0 _ rfl; rw [Nat.add_zero, show ((Kd.slice 3 (Kd.int .i64))).sz = 1 from rfl, Nat.mul_one] at hv292_0; replace hv292_0 := Option.some.inj (hv292_0.symm.trans hx292_0); rw [hv292_0] at ge292_0; have HL292_0 := Aside0.mk (show Kd.R (Kd.int .i64) 3 _ _ _ _ (rd_L4 x277000_2 t289) from ge292_0); clear hv292_0 ge292_0; have HX292_0 := Aside0.mk hx292_0; clear hcc292 hce292; have HR292_0 := Aside0.mk hi292_0; have HC292_0 := Aside0.mk hl292_0; clear hi292_0 hl292_0; replace p292 := eq_true p292; replace q292 := eq_true q292))
     go_roundg k2
     case measure => have := HK1.out; have := HK2.out; omega
     case rel => exact ⟨(wrap64 (x5_2 - 1)), (t290), (t291), (x277000_2), (.slice (some ad292) x277000_2.length co44), (by rfl ), H', ⟨by have := HK1.out; have := HK2.out; omega⟩, ⟨sdl HO_277000⟩, ⟨bkl BK275⟩, ⟨bkl BK276⟩, ⟨IsS47.to HI0⟩, ⟨kee HK⟩, ⟨belA HB⟩⟩
    rw [if_pos c26] at H
    have c26b0 : decide (((rd_L4 x277000_2 t289).length : Int) < 4) = true := decide_eq_true c26
    have c26b1 : decide ((rd_L4 x277000_2 t289).length < 4) = true := decide_eq_true (by omega)
    clear c26
    by_cases c27 : (rd_L4 x277000_2 t289).length < 17592186044416
    rotate_left
    ·rw [if_neg c27] at H
     exact absurd H (by simp)
    rw [if_pos c27] at H
    have LMc27 := Aside0.mk c27
    clear c27
    obtain ⟨y294, hy294⟩ : ∃ y_ : List Int, y_ = ((rd_L4 x277000_2 t289) ++ [x5_2]) := ⟨_, rfl⟩
    replace H : (spec_l1Cur_yard.l1 k2 (wrap64 (x5_2 - 1)) s0_0 t290 t291 (x277000_2.set (t289 : Int).toNat y294)) = some (r1, r2, r3) := by (rw [hy294]; with_reducible exact H) 
    have Ny294 := Aside0.mk hy294
    clear hy294
    obtain ⟨y297, hy297⟩ : ∃ y_ : List (List Int), y_ = (x277000_2.set (t289 : Int).toNat y294) := ⟨_, rfl⟩
    replace H : (spec_l1Cur_yard.l1 k2 (wrap64 (x5_2 - 1)) s0_0 t290 t291 y297) = some (r1, r2, r3) := by (rw [hy297]; with_reducible exact H) 
    have Ny297 := Aside0.mk hy297
    clear hy297
    have H' := Aside0.mk H
    clear H
    have hnb29 := NB276_275.out
    have hnc29 := NB275_276.out
    have hnb30 := NB276_0.out
    have hnc30 := NB0_276.out
    have hcz31_0 := bc BK276 0
    have hfz31_0 := blk_frozen BK276.out 0
    obtain ⟨Ao32, co32, eo32⟩ := Kd.S_slice HO_277000.out
    subst eo32
    try go_wp2_with (first | ((with_reducible refine gate_callee (f := 16) rfl ?_); refine goesL_ (some 35) rfl rfl Try.func16 (by kernel_rfl) rfl #[.pointer (some ⟨g, 0, none⟩), .int .i64 (x277000_2.length : Int)] rfl gmp ?_; (with_reducible refine (spec_l1Cur_pick.calls g s0_0 x1001_2 x1002_2 (x277000_2.length : Int) t289 t290 t291 w0 _ ?side1 ?side2 A23.out).mono ?_); (case side1 => exact IsS47.to HI0); (case side2 => exact belA HB); rintro e w33 ⟨rfl, hi, hb, hk⟩; refine ⟨_, rfl, ?_⟩; replace HO_277000 := Aside0.mk (Kd.S_mono (Kd.S_keep (IsS47.apartS (show IsS47 w0 _ g s0_0 x1001_2 x1002_2 from IsS47.to HI0) (sdl HO_277000) (by decide)) hk (fun _ h => h.2)) (fun _ h => h.1)); replace BK275 := kbk hk BK275 NB275_0; replace BK276 := kbk hk BK276 NB276_0; replace HK := Aside0.mk (KeepBut.trans (kee HK) hk (.inl rfl)); replace HB := Aside0.mk (hb); replace HI0 := Aside0.mk (hi); clear hb hk hi; obtain ⟨_, _⟩ := bf1 BK276; have p292 : 0 ≤ (t289 : Int) := oda; have q292 : t289 < (x277000_2.length : Int) := oda; obtain ⟨ad292, A292_0, c292_0, e292, hx292_0, hl292_0, hi292_0⟩ := at_L4 (Kd.S_reads' HO_277000.out).2.2 t289 p292 q292; cases e292; obtain ⟨ce292, hce292, hMe292, hcc292⟩ := Kd.S_get HO_277000.out [] t289 p292 (by exact q292 ); obtain ⟨ve292_0, rfl, ge292_0⟩ := hMe292; have hv292_0 := hcc292 0 _ rfl; rw [Nat.add_zero, show ((Kd.slice 3 (Kd.int .i64))).sz = 1 from rfl, Nat.mul_one] at hv292_0; replace hv292_0 := Option.some.inj (hv292_0.symm.trans hx292_0); rw [hv292_0] at ge292_0; have HL292_0 := Aside0.mk (show Kd.R (Kd.int .i64) 3 _ _ _ _ (rd_L4 x277000_2 t289) from ge292_0); clear hv292_0 ge292_0; have HX292_0 := Aside0.mk hx292_0; clear hcc292 hce292; have HR292_0 := Aside0.mk hi292_0; have HC292_0 := Aside0.mk hl292_0; clear hi292_0 hl292_0; replace p292 := eq_true p292; replace q292 := eq_true q292))
    have n0_ := Aside0.mk (Kd.S_drew HO_277000.out)
    have n1_ := Aside0.mk (Kd.R_drew HL292_0.out)
    have n2_ := Aside0.mk (blk_drew BK275.out)
    have n3_ := Aside0.mk (blk_drew BK276.out)
    have n4_ := Aside0.mk (Kd.C_drew HR292_0.out)
    have n5_ := Aside0.mk (IsS47.drew HI0.out)
    have n6_ := Aside0.mk (keep_drew HK.out)
    have n7_ := Aside0.mk (below_drew1 HB.out)
    clear HO_277000 HL292_0 BK275 BK276 HR292_0 HI0 HK HB
    have HO_277000 := n0_
    have HL292_0 := n1_
    have BK275 := n2_
    have BK276 := n3_
    have HR292_0 := n4_
    have HI0 := n5_
    have HK := n6_
    have HB := n7_
    clear n0_ n1_ n2_ n3_ n4_ n5_ n6_ n7_
    have p293 : 0 ≤ (t289 : Int) := oda
    have q293 : t289 < (x277000_2.length : Int) := oda
    obtain ⟨ad293, A293_0, c293_0, e293, hx293_0, hl293_0, hi293_0⟩ := at_L4 (Kd.S_reads' HO_277000.out).2.2 t289 p293 q293
    obtain rfl : ad292 = ad293 := (by injection e293)
    obtain ⟨ce293, hce293, hMe293, hcc293⟩ := Kd.S_get HO_277000.out [] t289 p293 (by exact q293 )
    obtain ⟨ve293_0, rfl, ge293_0⟩ := hMe293
    have hv293_0 := hcc293 0 _ rfl
    rw [Nat.add_zero, show ((Kd.slice 3 (Kd.int .i64))).sz = 1 from rfl, Nat.mul_one] at hv293_0
    replace hv293_0 := Option.some.inj (hv293_0.symm.trans hx293_0)
    rw [hv293_0] at ge293_0
    have HL293_0 := Aside0.mk (show Kd.R (Kd.int .i64) 3 _ _ _ _ (rd_L4 x277000_2 t289) from ge293_0)
    clear hv293_0 ge293_0
    have HX293_0 := Aside0.mk hx293_0
    clear hcc293 hce293
    have HR293_0 := Aside0.mk hi293_0
    have HC293_0 := Aside0.mk hl293_0
    clear hi293_0 hl293_0
    replace p293 := eq_true p293
    replace q293 := eq_true q293
    obtain ⟨go36, co36, eo36, gb36, gl36, cl36, HG36⟩ := Kd.S_form HO_277000.out (by have h_ : (t289 : Int) < ((x277000_2.length : Int) : Int) := oda; have h2_ : 0 ≤ (t289 : Int) := (oda); omega)
    (cases eo36 )
    have GB36 := Aside0.mk gb36
    have GG36 := Aside0.mk HG36
    clear gb36 gl36 HG36
    (simp only [add_plain] at hx292_0 )
    (simp only [add_plain] at hx293_0 )
    obtain ⟨oki36, ce36, hcl36, hM36, hcc36, _, _, hH36⟩ := Kd.S_elem HO_277000.out [] (t289 : Int) (oda) (by have h_ : (t289 : Int) < ((x277000_2.length : Int) : Int) := oda; exact h_ )
    obtain ⟨ve36_0, rfl, ge36_0⟩ := hM36
    have hv36 := hcc36 0 _ rfl
    have hX36 := HX293_0.out
    (try simp only [add_plain] at hX36)
    (try simp only [Nat.add_zero] at hv36)
    (try rw [show ((Kd.slice 3 (Kd.int .i64))).sz = 1 from rfl, Nat.mul_one] at hv36)
    replace hv36 := Option.some.inj (hv36.symm.trans hX36)
    subst hv36
    clear hX36 hcc36 hcl36
    have UU36 := Aside0.mk (show Kd.R (Kd.int .i64) 3 _ w.heap.size oki36 (.slice A293_0 (rd_L4 x277000_2 t289).length c293_0) (rd_L4 x277000_2 t289) from ge36_0)
    have HH36 := Aside0.mk hH36
    have HN36 := Aside0.mk (Kd.S_reads' HO_277000.out).1
    clear hH36 ge36_0
    refine start_ (n := 13) (S := fun w' => w'.cell? ⟨gb276, 0, none⟩ = some (.slice (some ⟨go36, 0, none⟩) x277000_2.length co32) ∧ w'.cell? ⟨go36, (t289).toNat, none⟩ = some (.slice A293_0 (rd_L4 x277000_2 t289).length c293_0)) (ds := [12]) #[false, false, false, false, false, false, false, false, false, false, false, false, false] (by kernel_rfl) rfl rfl ⟨(blk_cell BK276.out 0).trans rfl, hx293_0⟩ (fun hHeld => ?_); refine with_tabW spec_l1Cur_yard.tab11 spec_l1Cur_yard.bits11 (fun HT_ HW_ => ?_)
    generalize w33.drew = w35 at HO_277000 HL292_0 BK275 BK276 HR292_0 HI0 HK HB GG36 HH36 HL293_0 HR293_0 HX293_0 UU36 hx292_0 hx293_0 hHeld ⊢
    refine pu 0 (some 43) (bx 13 1) (h := ?_)
    refine pu 2 (some 45) (bx 13 5) (h := ?_)
    refine pu 3 (some 46) (bx 13 13) (h := ?_)
    refine pu 5 (some 48) (bx 13 45) (h := ?_)
    refine pu 8 (some 51) (bx 13 301) (h := ?_)
    refine tk2 1 (some 44) (bx 13 303) (h := ?_)
    refine tk2 4 (some 47) (bx 13 319) (h := ?_)
    refine pu 6 (some 49) (bx 13 383) (h := ?_)
    refine tk2 7 (some 50) (bx 13 511) (h := ?_)
    refine on 9 (some 52) (bx 13 1023) (h := fun K hK => ?_)
    refine value_ (w1 := ?_) (v := ?_) (by rfl) rfl ?_ ?_
    rotate_left 2
    ·go_simp
     constructor
     ·rfl
     rfl
    refine hK.out _ _ ⟨(blk_cell (blk_alloc BK276.out _) 0).trans rfl, (World.cell?_alloc_lt _ _ _ (World.block_lt_of_cell? _ _ (hHeld.2))).trans (hHeld.2)⟩ (fun hHeld => ?_)
    clear hK K
    refine nm 52 (h := ?_)
    refine on 10 (some 53) (bx 13 2047) (h := fun K hK => ?_)
    refine Kd.R_append_step (Kd.int .i64) w.heap.size (by rfl) (.tmp 50) (.tmp 52) 30 3 (.int .i64 0) 8 rfl Try.underlying30 info3 rfl (by decide) (by omega) (.slice A293_0 (rd_L4 x277000_2 t289).length c293_0) (rd_L4 x277000_2 t289) x5_2 [.int .i64 x5_2] (fun k_ => oki36 k_ ∨ ((fun _ => True)) k_ ∧ w35.heap.size ≤ k_) (fun _ => False) rfl rfl ?aP (fun _ hk => hk.elim) ?aF ?aO (Below.refl _ _) ?aS ?aL ?_
    (case aP => exact rfl)
    (case aF => exact (fun k_ hk => .inr ⟨trivial, hk⟩))
    (case aO => exact (by exact Kd.R_mono UU36.out (fun _ hk => .inl hk)))
    (case aS => exact (keep_size (w := w) (g := g) (row := none) (kee HK)))
    (case aL => have := LMc27.out; omega)
    intro v295 w37 ho hb hg hat
    (have HS1_ := cell_grown hg (cell_unalloc (hHeld.2) (by exact Kd.S_lt HO_277000.out _ rfl)) (by exact (fun e_ => ((HL293_0.out.1 _ e_.symm).2) rfl)))
    rw [← Ny294.out] at ho
    have n0_ := Aside0.mk (blk_grown (g := gb275) (o := .cells #[.slice none 0 0] 26 (0, 0)) (bkl BK275) hg (Kd.R_ne HL293_0.out BK275.out (by decide)))
    have n1_ := Aside0.mk (blk_grown (g := gb276) (o := .cells #[.slice (some ⟨go36, 0, none⟩) x277000_2.length co32] 26 (0, 0)) (bkl BK276) hg (Kd.R_ne HL293_0.out BK276.out (by decide)))
    have n2_ := Aside0.mk (IsS47.grown (IsS47.to HI0) hg (IsS47.own_ne HI0.out HL293_0.out (by decide)))
    have n3_ := Aside0.mk (below_weaken (belA HB) HL.out hb)
    have n4_ := Aside0.mk (KeepBut.trans (kee HK) (KeepBut.of_grown hg g) (Kd.R_base2 HL293_0.out))
    have n5_ := Aside0.mk (Kd.H_grown (Kd.H_widen (by repeat (exact HH36.out ))) hg (fun k_ e_ => .inl (UU36.out.1 k_ e_)))
    have n6_ := Aside0.mk (ho)
    clear BK275 BK276 HI0 HB HK HH36 HO_277000 UU36 HL292_0 HL293_0
    have BK275 := n0_
    have BK276 := n1_
    have HI0 := n2_
    have HB := n3_
    have HK := n4_
    have HH36 := n5_
    have HO296 := n6_
    clear n0_ n1_ n2_ n3_ n4_ n5_ n6_ ho hb hg hat
    have p28 : 0 ≤ (t289 : Int) := oda
    have q28 : (t289 : Int) < ((x277000_2.length : Int) : Int) := oda
    replace p28 := eq_true p28
    replace q28 := eq_true q28
    obtain ⟨Ao40, co40, eo40⟩ := Kd.R_slice HO296.out
    (subst eo40 )
    obtain ⟨_, _, hraw38, _, _, hcc38, _⟩ := Kd.H_raw HH36.out (oda) (by have h_ : (t289 : Int) < ((x277000_2.length : Int) : Int) := oda; exact h_ )
    obtain ⟨_, hfr38⟩ := Kd.H_at HH36.out (oda) (by have h_ : (t289 : Int) < ((x277000_2.length : Int) : Int) := oda; exact h_ )
    have hx38_0 := hcc38 0 _ rfl
    have hf38_0 := hfr38 0
    (try simp only [Nat.add_zero] at hx38_0 hf38_0)
    (try rw [show ((Kd.slice 3 (Kd.int .i64))).sz = 1 from rfl, Nat.mul_one] at hx38_0)
    (try rw [show ((Kd.slice 3 (Kd.int .i64))).sz = 1 from rfl, Nat.mul_one] at hf38_0)
    have HP38 := Kd.S_seg0 HH36.out (oda) (by have h_ : (t289 : Int) < ((x277000_2.length : Int) : Int) := oda; exact h_ ) (seg := [.slice Ao40 y294.length co40]) (j := 0) (show 1 ≤ 1 from by decide) (x' := y294) (Kd.M_row HO296.out) (fun _ hk => hk)
    (try simp only [show ((Kd.slice 3 (Kd.int .i64))).sz = 1 from rfl, Nat.mul_one, Nat.add_zero] at HP38)
    clear hcc38 hfr38
    have HN0_go36 := Aside0.mk (show g ≠ go36 from by have h_ := IsS47.own_ne HI0.out hraw38 (by decide); intro e_; exact h_ (by rw [e_]; rfl))
    have HNB275_go36 := Aside0.mk (show gb275 ≠ go36 from by have h_ := Kd.R_ne hraw38 BK275.out (by decide); intro e_; exact h_ (by rw [e_]; rfl))
    have HNB276_go36 := Aside0.mk (show gb276 ≠ go36 from by have h_ := Kd.R_ne hraw38 BK276.out (by decide); intro e_; exact h_ (by rw [e_]; rfl))
    have HS38 := HP38.1
    rw [← Ny297.out] at HS38
    have HQ38 := Aside0.mk HS38
    obtain ⟨_, hgg38⟩ := Kd.R_typed hraw38 go36 rfl
    have GG38_ := Aside0.mk hgg38
    clear HP38 HS38 hgg38
    refine hK.out _ _ ⟨(blk_cell BK276.out 0).trans rfl, HS1_⟩ (fun hHeld => ?_)
    clear hK K
    refine nm 53 (h := ?_)
    refine pu 11 (some 54) (bx 13 4095) (h := ?_)
    refine last_ (i := 12) (N := none) #[true, true, true, true, true, true, true, true, true, true, true, true, true] rfl rfl (one_of HT_.out (by kernel_rfl)) (by decide) (fun K hK => ?_)
    refine skip_ (w1 := ?_) (by rfl) rfl ?_ ?_
    rotate_left
    ·go_simp
     rfl
    refine hK.out _ _ ?_
    clear hK K
    refine done_ (done_of HT_.out (by kernel_rfl)) ?_
    try go_wp2
    go_roundg k2
    case measure => have := HK1.out; have := HK2.out; omega
    case rel => exact ⟨(wrap64 (x5_2 - 1)), (t290), (t291), (y297), (.slice (some ⟨go36, 0, none⟩) x277000_2.length co32), (by rfl ), H', ⟨by have := HK1.out; have := HK2.out; omega⟩, ⟨sdl HQ38⟩, ⟨by refine blk_far ?_ HNB275_go36.out _; exact BK275.out⟩, ⟨by refine blk_far ?_ HNB276_go36.out _; exact BK276.out⟩, ⟨IsS47.to HI0⟩, ⟨kee HK⟩, ⟨by repeat ((with_reducible first | exact HB.out | refine below_set ?_ (Nat.le_trans HL.out GB36.out) ) )⟩⟩
   rw [if_neg c22] at H
   have c22b0 : decide (0 < x5_2) = false := decide_eq_false c22
   clear c22
   obtain ⟨⟨t298, t299, t300⟩, A47, H⟩ := bnd H
   try dsimp only at H
   have H' := Aside0.mk H
   clear H
   go_wp2_with (first | ((with_reducible refine gate_callee (f := 16) rfl ?_); refine goesL_ (some 56) rfl rfl Try.func16 (by kernel_rfl) rfl #[.pointer (some ⟨g, 0, none⟩), .int .i64 4] rfl gmp ?_; (with_reducible refine (spec_l1Cur_pick.calls g s0_0 x1001_2 x1002_2 4 t298 t299 t300 w0 _ ?side1 ?side2 A47.out).mono ?_); (case side1 => exact IsS47.to HI0); (case side2 => exact belA HB); rintro e w48 ⟨rfl, hi, hb, hk⟩; refine ⟨_, rfl, ?_⟩; replace HO_277000 := Aside0.mk (Kd.S_mono (Kd.S_keep (IsS47.apartS (show IsS47 w0 _ g s0_0 x1001_2 x1002_2 from IsS47.to HI0) (sdl HO_277000) (by decide)) hk (fun _ h => h.2)) (fun _ h => h.1)); replace BK275 := kbk hk BK275 NB275_0; replace BK276 := kbk hk BK276 NB276_0; replace HK := Aside0.mk (KeepBut.trans (kee HK) hk (.inl rfl)); replace HB := Aside0.mk (hb); replace HI0 := Aside0.mk (hi); clear hb hk hi))
   go_loopg [7] k2 (fun kq v7 w' => ∃ (x7_3 : Int) (x1001_3 : Int) (x1002_3 : Int) (x277000_3 : List (List Int)) (u277000 : Value), v7 = .int .i64 x7_3 ∧ Aside0 (spec_l1Cur_yard.l2 kq x7_3 s0_0 x1001_3 x1002_3 x277000_3 = some (r1, r2, r3)) ∧ Aside0 (kq ≤ k2) ∧ Aside0 (Kd.S (Kd.slice 3 (Kd.int .i64)) 30 w' w.heap.size (fun _ => True) u277000 x277000_3) ∧ Aside0 (w'.heap[gb275]? = some (.cells #[(.slice none 0 0)] 26 (0, 0))) ∧ Aside0 (w'.heap[gb276]? = some (.cells #[u277000] 26 (0, 0))) ∧ Aside0 (IsS47 w0 w' g s0_0 x1001_3 x1002_3) ∧ Aside0 (KeepBut w w' g none) ∧ Aside0 (Below w0.heap.size w0 w'))
   case atStart => exact ⟨(t298), (t299), (t300), (x277000_2), (u277000), (by rfl ), H', ⟨Nat.le_refl _⟩, ⟨sdl HO_277000⟩, ⟨bkl BK275⟩, ⟨bkl BK276⟩, ⟨IsS47.to HI0⟩, ⟨kee HK⟩, ⟨belA HB⟩⟩
   clear H'
   try clear c22b0
   obtain ⟨x7_3, x1001_3, x1002_3, x277000_3, u277000, rfl, HA, HK3, HO_277000, BK275, BK276, HI0, HK, HB⟩ := hrel
   cases gk with
   | zero => exact absurd HA.out (by simp [spec_l1Cur_yard.l2])
   | succ k3 =>
    have H := HA.out
    clear HA
    simp only [spec_l1Cur_yard.l2] at H
    by_cases c49 : x7_3 > 0
    rotate_left
    ·rw [if_neg c49] at H
     have c49b0 : decide (0 < x7_3) = false := decide_eq_false c49
     clear c49
     obtain ⟨t301, A88, H⟩ := bnd H
     try dsimp only at H
     simp only [Option.some.injEq, Prod.mk.injEq] at H
     obtain ⟨rfl, rfl, rfl⟩ := H
     have hnb89 := NB276_275.out
     have hnc89 := NB275_276.out
     have hnb90 := NB276_0.out
     have hnc90 := NB0_276.out
     have hcz91_0 := bc BK276 0
     have hfz91_0 := blk_frozen BK276.out 0
     obtain ⟨Ao92, co92, eo92⟩ := Kd.S_slice HO_277000.out
     subst eo92
     go_wp2_with (first | ((with_reducible refine gate_callee (f := 43) rfl ?_); refine goesL_ (some 97) rfl rfl Try.func43 (by kernel_rfl) rfl #[.agg #[.slice Ao92 x277000_3.length co92]] rfl gmp ?_; (with_reducible refine (spec_l5Own.calls k3 _ _ x277000_3 t301 _ ?side1 ?side2 A88.out).mono ?_); (case side1 => repeat (exact (Kd.S_reads' HO_277000.out).2.2 )); (case side2 => exact (Kd.S_reads' HO_277000.out).2.1); rintro e w93 ⟨v302, rfl, ho0, hb⟩; refine ⟨_, rfl, ?_⟩; have HO303 := Aside0.mk (Kd.S_lower (Kd.S_new' ho0 (Kd.S_lt (sdl HO_277000))) (keep_size (w := w) (g := g) (row := none) (kee HK))); replace HO_277000 := Aside0.mk (Kd.S_elder' (sdl HO_277000) (Kd.S_base ho0) hb); replace BK275 := bkb BK275 hb; replace BK276 := bkb BK276 hb; replace HI0 := Aside0.mk (IsS47.below (IsS47.to HI0) hb); replace HK := Aside0.mk (KeepBut.trans (kee HK) (KeepBut.of_below hb g none) (.inl rfl)); replace HB := Aside0.mk (below_step (belA HB) hb); (try clear hb); (try clear ho0); obtain ⟨Ao94, co94, eo94⟩ := Kd.S_slice HO303.out; subst eo94; have hnb95 := NB275_0.out; have hnc95 := NB0_275.out; obtain ⟨_, _⟩ := bf1 BK275))
     refine bodyPost_ret (results_cell_row rfl _ _ gb275 26 #[.slice Ao94 t301.length co94] (0, 0) _ rfl (blk_put BK275.out 0 _ rfl) Try.underlying26 rfl (by kernel_rfl)) rfl ?_
     exact ⟨_, by rfl , by exact Kd.S_mono (Kd.S_far (p := ⟨gb275, 0, none⟩) (Kd.S_types HO303.out BK275.out (by decide)) (fun _ hk => hk.2) (.slice Ao94 t301.length co94)) (fun _ hk => trivial), IsS47.to HI0, belA HB, kee HK⟩
    rw [if_pos c49] at H
    have c49b0 : decide (0 < x7_3) = true := decide_eq_true c49
    clear c49
    obtain ⟨⟨t304, t305, t306⟩, A50, H⟩ := bnd H
    try dsimp only at H
    obtain ⟨⟨t307, t308, t309⟩, A51, H⟩ := bnd H
    try dsimp only at H
    by_cases c52 : t304 = t307
    ·rw [if_pos c52] at H
     have c52b0 : (t304 == t307) = true := beq_iff_eq.mpr c52
     have c52b1 : (t304 != t307) = false := bne_eq_false_iff_eq.mpr c52
     clear c52
     have H' := Aside0.mk H
     clear H
     try go_wp2
     have n0_ := Aside0.mk (Kd.S_drew HO_277000.out)
     have n1_ := Aside0.mk (blk_drew BK275.out)
     have n2_ := Aside0.mk (blk_drew BK276.out)
     have n3_ := Aside0.mk (IsS47.drew HI0.out)
     have n4_ := Aside0.mk (keep_drew HK.out)
     have n5_ := Aside0.mk (below_drew1 HB.out)
     clear HO_277000 BK275 BK276 HI0 HK HB
     have HO_277000 := n0_
     have BK275 := n1_
     have BK276 := n2_
     have HI0 := n3_
     have HK := n4_
     have HB := n5_
     clear n0_ n1_ n2_ n3_ n4_ n5_
     obtain ⟨Ao54, co54, eo54⟩ := Kd.S_slice HO_277000.out
     (subst eo54 )
     refine start_ (n := 12) (S := fun w' => w'.cell? ⟨gb276, 0, none⟩ = some (.slice Ao54 x277000_3.length co54)) (ds := []) #[false, false, false, false, false, false, false, false, false, false, false, false] (by kernel_rfl) rfl rfl ((blk_cell BK276.out 0).trans rfl) (fun hHeld => ?_); refine with_tabW spec_l1Cur_yard.tab15 spec_l1Cur_yard.bits15 (fun HT_ HW_ => ?_)
     generalize wr.drew = w53 at HO_277000 BK275 BK276 HI0 HK HB hHeld ⊢
     refine pu 0 (some 61) (bx 12 1) (h := ?_)
     refine pu 1 (some 62) (bx 12 3) (h := ?_)
     refine pu 5 (some 66) (bx 12 35) (h := ?_)
     refine pu 6 (some 67) (bx 12 99) (h := ?_)
     refine take_ (i := 2) (N := some 63) (v := ?_) (a' := ?_) #[true, true, true, false, false, true, true, false, false, false, false, false] rfl rfl (take_ofW HT_.out HW_.out (by kernel_rfl)) (fun _ _ _ h => h) (Or.inl ⟨by rfl, ?_⟩) hHeld ?_ ?_
     rotate_left
     ·intro w' s0
      go_simp
      with_reducible rfl
     rotate_left
     ·simp only [putS]
      rfl
     refine pu 3 (some 64) (bx 12 111) (h := ?_)
     refine take_ (i := 7) (N := some 68) (v := ?_) (a' := ?_) #[true, true, true, true, false, true, true, true, false, false, false, false] rfl rfl (take_ofW HT_.out HW_.out (by kernel_rfl)) (fun _ _ _ h => h) (Or.inl ⟨by rfl, ?_⟩) hHeld ?_ ?_
     rotate_left
     ·intro w' s0
      go_simp
      with_reducible rfl
     rotate_left
     ·simp only [putS]
      rfl
     refine pu 8 (some 69) (bx 12 495) (h := ?_)
     refine on 4 (some 65) (bx 12 511) (h := fun K hK => ?_)
     refine goes_ Try.func16 (by kernel_rfl) rfl #[.pointer (some ⟨g, 0, none⟩), .int .i64 (x277000_3.length : Int)] (by rfl) rfl rfl gmp ?_
     with_reducible refine (spec_l1Cur_pick.calls g s0_0 x1001_3 x1002_3 (x277000_3.length : Int) t304 t305 t306 w0 _ ?side1 ?side2 A50.out).mono ?_
     (case side1 => exact IsS47.to HI0)
     (case side2 => exact belA HB)
     rintro e w55 ⟨rfl, hi, hb, hk⟩
     refine ⟨_, rfl, ?_⟩
     have n0_ := Aside0.mk (Kd.S_mono (Kd.S_keep (IsS47.apartS (show IsS47 w0 _ g s0_0 x1001_3 x1002_3 from IsS47.to HI0) (sdl HO_277000) (by decide)) hk (fun _ h => h.2)) (fun _ h => h.1))
     have n1_ := kbk hk BK275 NB275_0
     have n2_ := kbk hk BK276 NB276_0
     have n3_ := Aside0.mk (KeepBut.trans (kee HK) hk (.inl rfl))
     have n4_ := Aside0.mk (hb)
     have n5_ := Aside0.mk (hi)
     clear HO_277000 BK275 BK276 HK HB HI0
     have HO_277000 := n0_
     have BK275 := n1_
     have BK276 := n2_
     have HK := n3_
     have HB := n4_
     have HI0 := n5_
     clear n0_ n1_ n2_ n3_ n4_ n5_
     (try clear hb)
     (try clear hk)
     (try clear hi)
     refine hK.out _ _ ((blk_cell BK276.out 0).trans rfl) (fun hHeld => ?_)
     clear hK K
     refine nm 65 (h := ?_)
     refine on 9 (some 70) (bx 12 1023) (h := fun K hK => ?_)
     refine goes_ Try.func16 (by kernel_rfl) rfl #[.pointer (some ⟨g, 0, none⟩), .int .i64 (x277000_3.length : Int)] (by rfl) rfl rfl gmp ?_
     with_reducible refine (spec_l1Cur_pick.calls g s0_0 t305 t306 (x277000_3.length : Int) t307 t308 t309 w0 _ ?side1 ?side2 A51.out).mono ?_
     (case side1 => exact IsS47.to HI0)
     (case side2 => exact belA HB)
     rintro e w56 ⟨rfl, hi, hb, hk⟩
     refine ⟨_, rfl, ?_⟩
     have n0_ := Aside0.mk (Kd.S_mono (Kd.S_keep (IsS47.apartS (show IsS47 w0 _ g s0_0 t305 t306 from IsS47.to HI0) (sdl HO_277000) (by decide)) hk (fun _ h => h.2)) (fun _ h => h.1))
     have n1_ := kbk hk BK275 NB275_0
     have n2_ := kbk hk BK276 NB276_0
     have n3_ := Aside0.mk (KeepBut.trans (kee HK) hk (.inl rfl))
     have n4_ := Aside0.mk (hb)
     have n5_ := Aside0.mk (hi)
     clear HO_277000 BK275 BK276 HK HB HI0
     have HO_277000 := n0_
     have BK275 := n1_
     have BK276 := n2_
     have HK := n3_
     have HB := n4_
     have HI0 := n5_
     clear n0_ n1_ n2_ n3_ n4_ n5_
     (try clear hb)
     (try clear hk)
     (try clear hi)
     refine hK.out _ _ ((blk_cell BK276.out 0).trans rfl) (fun hHeld => ?_)
     clear hK K
     refine nm 70 (h := ?_)
     refine pu 10 (some 8) (bx 12 2047) (h := ?_)
     refine pu 11 (some 9) (bx 12 4095) (h := ?_)
     refine done_ (done_of HT_.out (by kernel_rfl)) ?_
     try go_wp2
     go_roundg k3
     case measure => have := HK1.out; have := HK2.out; have := HK3.out; omega
     case rel => exact ⟨(wrap64 (x7_3 - 1)), (t308), (t309), (x277000_3), (.slice Ao54 x277000_3.length co54), (by rfl ), H', ⟨by have := HK1.out; have := HK2.out; have := HK3.out; omega⟩, ⟨sdl HO_277000⟩, ⟨bkl BK275⟩, ⟨bkl BK276⟩, ⟨IsS47.to HI0⟩, ⟨kee HK⟩, ⟨belA HB⟩⟩
    rw [if_neg c52] at H
    have c52b0 : (t304 == t307) = false := beq_eq_false_iff_ne.mpr c52
    have c52b1 : (t304 != t307) = true := bne_iff_ne.mpr c52
    by_cases c57 : 0 ≤ t304
    rotate_left
    ·rw [if_neg c57] at H
     exact absurd H (by simp)
    rw [if_pos c57] at H
    have c57b0 : decide (0 ≤ t304) = true := decide_eq_true c57
    clear c57
    by_cases c58 : t304 < (x277000_3.length : Int)
    rotate_left
    ·rw [if_neg c58] at H
     exact absurd H (by simp)
    rw [if_pos c58] at H
    have c58b0 : decide (t304 < (x277000_3.length : Int)) = true := decide_eq_true c58
    clear c58
    by_cases c59 : ((rd_L4 x277000_3 t304).length : Int) > 0
    rotate_left
    ·rw [if_neg c59] at H
     have c59b0 : decide (0 < ((rd_L4 x277000_3 t304).length : Int)) = false := decide_eq_false c59
     have c59b1 : decide (0 < (rd_L4 x277000_3 t304).length) = false := decide_eq_false (by omega)
     clear c59
     have H' := Aside0.mk H
     clear H
     try go_wp2
     have n0_ := Aside0.mk (Kd.S_drew HO_277000.out)
     have n1_ := Aside0.mk (blk_drew BK275.out)
     have n2_ := Aside0.mk (blk_drew BK276.out)
     have n3_ := Aside0.mk (IsS47.drew HI0.out)
     have n4_ := Aside0.mk (keep_drew HK.out)
     have n5_ := Aside0.mk (below_drew1 HB.out)
     clear HO_277000 BK275 BK276 HI0 HK HB
     have HO_277000 := n0_
     have BK275 := n1_
     have BK276 := n2_
     have HI0 := n3_
     have HK := n4_
     have HB := n5_
     clear n0_ n1_ n2_ n3_ n4_ n5_
     obtain ⟨Ao82, co82, eo82⟩ := Kd.S_slice HO_277000.out
     (subst eo82 )
     refine start_ (n := 12) (S := fun w' => w'.cell? ⟨gb276, 0, none⟩ = some (.slice Ao82 x277000_3.length co82)) (ds := []) #[false, false, false, false, false, false, false, false, false, false, false, false] (by kernel_rfl) rfl rfl ((blk_cell BK276.out 0).trans rfl) (fun hHeld => ?_); refine with_tabW spec_l1Cur_yard.tab15 spec_l1Cur_yard.bits15 (fun HT_ HW_ => ?_)
     generalize wr.drew = w81 at HO_277000 BK275 BK276 HI0 HK HB hHeld ⊢
     refine pu 0 (some 61) (bx 12 1) (h := ?_)
     refine pu 1 (some 62) (bx 12 3) (h := ?_)
     refine pu 5 (some 66) (bx 12 35) (h := ?_)
     refine pu 6 (some 67) (bx 12 99) (h := ?_)
     refine take_ (i := 2) (N := some 63) (v := ?_) (a' := ?_) #[true, true, true, false, false, true, true, false, false, false, false, false] rfl rfl (take_ofW HT_.out HW_.out (by kernel_rfl)) (fun _ _ _ h => h) (Or.inl ⟨by rfl, ?_⟩) hHeld ?_ ?_
     rotate_left
     ·intro w' s0
      go_simp
      with_reducible rfl
     rotate_left
     ·simp only [putS]
      rfl
     refine pu 3 (some 64) (bx 12 111) (h := ?_)
     refine take_ (i := 7) (N := some 68) (v := ?_) (a' := ?_) #[true, true, true, true, false, true, true, true, false, false, false, false] rfl rfl (take_ofW HT_.out HW_.out (by kernel_rfl)) (fun _ _ _ h => h) (Or.inl ⟨by rfl, ?_⟩) hHeld ?_ ?_
     rotate_left
     ·intro w' s0
      go_simp
      with_reducible rfl
     rotate_left
     ·simp only [putS]
      rfl
     refine pu 8 (some 69) (bx 12 495) (h := ?_)
     refine on 4 (some 65) (bx 12 511) (h := fun K hK => ?_)
     refine goes_ Try.func16 (by kernel_rfl) rfl #[.pointer (some ⟨g, 0, none⟩), .int .i64 (x277000_3.length : Int)] (by rfl) rfl rfl gmp ?_
     with_reducible refine (spec_l1Cur_pick.calls g s0_0 x1001_3 x1002_3 (x277000_3.length : Int) t304 t305 t306 w0 _ ?side1 ?side2 A50.out).mono ?_
     (case side1 => exact IsS47.to HI0)
     (case side2 => exact belA HB)
     rintro e w83 ⟨rfl, hi, hb, hk⟩
     refine ⟨_, rfl, ?_⟩
     have n0_ := Aside0.mk (Kd.S_mono (Kd.S_keep (IsS47.apartS (show IsS47 w0 _ g s0_0 x1001_3 x1002_3 from IsS47.to HI0) (sdl HO_277000) (by decide)) hk (fun _ h => h.2)) (fun _ h => h.1))
     have n1_ := kbk hk BK275 NB275_0
     have n2_ := kbk hk BK276 NB276_0
     have n3_ := Aside0.mk (KeepBut.trans (kee HK) hk (.inl rfl))
     have n4_ := Aside0.mk (hb)
     have n5_ := Aside0.mk (hi)
     clear HO_277000 BK275 BK276 HK HB HI0
     have HO_277000 := n0_
     have BK275 := n1_
     have BK276 := n2_
     have HK := n3_
     have HB := n4_
     have HI0 := n5_
     clear n0_ n1_ n2_ n3_ n4_ n5_
     (try clear hb)
     (try clear hk)
     (try clear hi)
     refine hK.out _ _ ((blk_cell BK276.out 0).trans rfl) (fun hHeld => ?_)
     clear hK K
     refine nm 65 (h := ?_)
     refine on 9 (some 70) (bx 12 1023) (h := fun K hK => ?_)
     refine goes_ Try.func16 (by kernel_rfl) rfl #[.pointer (some ⟨g, 0, none⟩), .int .i64 (x277000_3.length : Int)] (by rfl) rfl rfl gmp ?_
     with_reducible refine (spec_l1Cur_pick.calls g s0_0 t305 t306 (x277000_3.length : Int) t307 t308 t309 w0 _ ?side1 ?side2 A51.out).mono ?_
     (case side1 => exact IsS47.to HI0)
     (case side2 => exact belA HB)
     rintro e w84 ⟨rfl, hi, hb, hk⟩
     refine ⟨_, rfl, ?_⟩
     have n0_ := Aside0.mk (Kd.S_mono (Kd.S_keep (IsS47.apartS (show IsS47 w0 _ g s0_0 t305 t306 from IsS47.to HI0) (sdl HO_277000) (by decide)) hk (fun _ h => h.2)) (fun _ h => h.1))
     have n1_ := kbk hk BK275 NB275_0
     have n2_ := kbk hk BK276 NB276_0
     have n3_ := Aside0.mk (KeepBut.trans (kee HK) hk (.inl rfl))
     have n4_ := Aside0.mk (hb)
     have n5_ := Aside0.mk (hi)
     clear HO_277000 BK275 BK276 HK HB HI0
     have HO_277000 := n0_
     have BK275 := n1_
     have BK276 := n2_
     have HK := n3_
     have HB := n4_
     have HI0 := n5_
     clear n0_ n1_ n2_ n3_ n4_ n5_
     (try clear hb)
     (try clear hk)
     (try clear hi)
     refine hK.out _ _ ((blk_cell BK276.out 0).trans rfl) (fun hHeld => ?_)
     clear hK K
     refine nm 70 (h := ?_)
     refine pu 10 (some 8) (bx 12 2047) (h := ?_)
     refine pu 11 (some 9) (bx 12 4095) (h := ?_)
     refine done_ (done_of HT_.out (by kernel_rfl)) ?_
     have hnb85 := NB276_275.out
     have hnc85 := NB275_276.out
     have hnb86 := NB276_0.out
     have hnc86 := NB0_276.out
     have hcz87_0 := bc BK276 0
     have hfz87_0 := blk_frozen BK276.out 0
     have p310 : 0 ≤ (t304 : Int) := oda
     have q310 : t304 < (x277000_3.length : Int) := oda
     obtain ⟨ad310, A310_0, c310_0, e310, hx310_0, hl310_0, hi310_0⟩ := at_L4 (Kd.S_reads' HO_277000.out).2.2 t304 p310 q310
     cases e310
     obtain ⟨ce310, hce310, hMe310, hcc310⟩ := Kd.S_get HO_277000.out [] t304 p310 (by exact q310 )
     obtain ⟨ve310_0, rfl, ge310_0⟩ := hMe310
     have hv310_0 := hcc310 0 _ rfl
     rw [Nat.add_zero, show ((Kd.slice 3 (Kd.int .i64))).sz = 1 from rfl, Nat.mul_one] at hv310_0
     replace hv310_0 := Option.some.inj (hv310_0.symm.trans hx310_0)
     rw [hv310_0] at ge310_0
     have HL310_0 := Aside0.mk (show Kd.R (Kd.int .i64) 3 _ _ _ _ (rd_L4 x277000_3 t304) from ge310_0)
     clear hv310_0 ge310_0
     have HX310_0 := Aside0.mk hx310_0
     clear hcc310 hce310
     have HR310_0 := Aside0.mk hi310_0
     have HC310_0 := Aside0.mk hl310_0
     clear hi310_0 hl310_0
     replace p310 := eq_true p310
     replace q310 := eq_true q310
     try go_wp2
     go_roundg k3
     case measure => have := HK1.out; have := HK2.out; have := HK3.out; omega
     case rel => exact ⟨(wrap64 (x7_3 - 1)), (t308), (t309), (x277000_3), (.slice (some ad310) x277000_3.length co82), (by rfl ), H', ⟨by have := HK1.out; have := HK2.out; have := HK3.out; omega⟩, ⟨sdl HO_277000⟩, ⟨bkl BK275⟩, ⟨bkl BK276⟩, ⟨IsS47.to HI0⟩, ⟨kee HK⟩, ⟨belA HB⟩⟩
    rw [if_pos c59] at H
    have c59b0 : decide (0 < ((rd_L4 x277000_3 t304).length : Int)) = true := decide_eq_true c59
    have c59b1 : decide (0 < (rd_L4 x277000_3 t304).length) = true := decide_eq_true (by omega)
    clear c59
    by_cases c60 : 0 ≤ t307
    rotate_left
    ·rw [if_neg c60] at H
     exact absurd H (by simp)
    rw [if_pos c60] at H
    have c60b0 : decide (0 ≤ t307) = true := decide_eq_true c60
    clear c60
    by_cases c61 : t307 < (x277000_3.length : Int)
    rotate_left
    ·rw [if_neg c61] at H
     exact absurd H (by simp)
    rw [if_pos c61] at H
    have c61b0 : decide (t307 < (x277000_3.length : Int)) = true := decide_eq_true c61
    clear c61
    by_cases c62 : ((rd_L4 x277000_3 t307).length : Int) < 4
    rotate_left
    ·rw [if_neg c62] at H
     have c62b0 : decide (((rd_L4 x277000_3 t307).length : Int) < 4) = false := decide_eq_false c62
     have c62b1 : decide ((rd_L4 x277000_3 t307).length < 4) = false := decide_eq_false (by omega)
     clear c62
     have H' := Aside0.mk H
     clear H
     try go_wp2
     have n0_ := Aside0.mk (Kd.S_drew HO_277000.out)
     have n1_ := Aside0.mk (blk_drew BK275.out)
     have n2_ := Aside0.mk (blk_drew BK276.out)
     have n3_ := Aside0.mk (IsS47.drew HI0.out)
     have n4_ := Aside0.mk (keep_drew HK.out)
     have n5_ := Aside0.mk (below_drew1 HB.out)
     clear HO_277000 BK275 BK276 HI0 HK HB
     have HO_277000 := n0_
     have BK275 := n1_
     have BK276 := n2_
     have HI0 := n3_
     have HK := n4_
     have HB := n5_
     clear n0_ n1_ n2_ n3_ n4_ n5_
     obtain ⟨Ao75, co75, eo75⟩ := Kd.S_slice HO_277000.out
     (subst eo75 )
     refine start_ (n := 12) (S := fun w' => w'.cell? ⟨gb276, 0, none⟩ = some (.slice Ao75 x277000_3.length co75)) (ds := []) #[false, false, false, false, false, false, false, false, false, false, false, false] (by kernel_rfl) rfl rfl ((blk_cell BK276.out 0).trans rfl) (fun hHeld => ?_); refine with_tabW spec_l1Cur_yard.tab15 spec_l1Cur_yard.bits15 (fun HT_ HW_ => ?_)
     generalize wr.drew = w74 at HO_277000 BK275 BK276 HI0 HK HB hHeld ⊢
     refine pu 0 (some 61) (bx 12 1) (h := ?_)
     refine pu 1 (some 62) (bx 12 3) (h := ?_)
     refine pu 5 (some 66) (bx 12 35) (h := ?_)
     refine pu 6 (some 67) (bx 12 99) (h := ?_)
     refine take_ (i := 2) (N := some 63) (v := ?_) (a' := ?_) #[true, true, true, false, false, true, true, false, false, false, false, false] rfl rfl (take_ofW HT_.out HW_.out (by kernel_rfl)) (fun _ _ _ h => h) (Or.inl ⟨by rfl, ?_⟩) hHeld ?_ ?_
     rotate_left
     ·intro w' s0
      go_simp
      with_reducible rfl
     rotate_left
     ·simp only [putS]
      rfl
     refine pu 3 (some 64) (bx 12 111) (h := ?_)
     refine take_ (i := 7) (N := some 68) (v := ?_) (a' := ?_) #[true, true, true, true, false, true, true, true, false, false, false, false] rfl rfl (take_ofW HT_.out HW_.out (by kernel_rfl)) (fun _ _ _ h => h) (Or.inl ⟨by rfl, ?_⟩) hHeld ?_ ?_
     rotate_left
     ·intro w' s0
      go_simp
      with_reducible rfl
     rotate_left
     ·simp only [putS]
      rfl
     refine pu 8 (some 69) (bx 12 495) (h := ?_)
     refine on 4 (some 65) (bx 12 511) (h := fun K hK => ?_)
     refine goes_ Try.func16 (by kernel_rfl) rfl #[.pointer (some ⟨g, 0, none⟩), .int .i64 (x277000_3.length : Int)] (by rfl) rfl rfl gmp ?_
     with_reducible refine (spec_l1Cur_pick.calls g s0_0 x1001_3 x1002_3 (x277000_3.length : Int) t304 t305 t306 w0 _ ?side1 ?side2 A50.out).mono ?_
     (case side1 => exact IsS47.to HI0)
     (case side2 => exact belA HB)
     rintro e w76 ⟨rfl, hi, hb, hk⟩
     refine ⟨_, rfl, ?_⟩
     have n0_ := Aside0.mk (Kd.S_mono (Kd.S_keep (IsS47.apartS (show IsS47 w0 _ g s0_0 x1001_3 x1002_3 from IsS47.to HI0) (sdl HO_277000) (by decide)) hk (fun _ h => h.2)) (fun _ h => h.1))
     have n1_ := kbk hk BK275 NB275_0
     have n2_ := kbk hk BK276 NB276_0
     have n3_ := Aside0.mk (KeepBut.trans (kee HK) hk (.inl rfl))
     have n4_ := Aside0.mk (hb)
     have n5_ := Aside0.mk (hi)
     clear HO_277000 BK275 BK276 HK HB HI0
     have HO_277000 := n0_
     have BK275 := n1_
     have BK276 := n2_
     have HK := n3_
     have HB := n4_
     have HI0 := n5_
     clear n0_ n1_ n2_ n3_ n4_ n5_
     (try clear hb)
     (try clear hk)
     (try clear hi)
     refine hK.out _ _ ((blk_cell BK276.out 0).trans rfl) (fun hHeld => ?_)
     clear hK K
     refine nm 65 (h := ?_)
     refine on 9 (some 70) (bx 12 1023) (h := fun K hK => ?_)
     refine goes_ Try.func16 (by kernel_rfl) rfl #[.pointer (some ⟨g, 0, none⟩), .int .i64 (x277000_3.length : Int)] (by rfl) rfl rfl gmp ?_
     with_reducible refine (spec_l1Cur_pick.calls g s0_0 t305 t306 (x277000_3.length : Int) t307 t308 t309 w0 _ ?side1 ?side2 A51.out).mono ?_
     (case side1 => exact IsS47.to HI0)
     (case side2 => exact belA HB)
     rintro e w77 ⟨rfl, hi, hb, hk⟩
     refine ⟨_, rfl, ?_⟩
     have n0_ := Aside0.mk (Kd.S_mono (Kd.S_keep (IsS47.apartS (show IsS47 w0 _ g s0_0 t305 t306 from IsS47.to HI0) (sdl HO_277000) (by decide)) hk (fun _ h => h.2)) (fun _ h => h.1))
     have n1_ := kbk hk BK275 NB275_0
     have n2_ := kbk hk BK276 NB276_0
     have n3_ := Aside0.mk (KeepBut.trans (kee HK) hk (.inl rfl))
     have n4_ := Aside0.mk (hb)
     have n5_ := Aside0.mk (hi)
     clear HO_277000 BK275 BK276 HK HB HI0
     have HO_277000 := n0_
     have BK275 := n1_
     have BK276 := n2_
     have HK := n3_
     have HB := n4_
     have HI0 := n5_
     clear n0_ n1_ n2_ n3_ n4_ n5_
     (try clear hb)
     (try clear hk)
     (try clear hi)
     refine hK.out _ _ ((blk_cell BK276.out 0).trans rfl) (fun hHeld => ?_)
     clear hK K
     refine nm 70 (h := ?_)
     refine pu 10 (some 8) (bx 12 2047) (h := ?_)
     refine pu 11 (some 9) (bx 12 4095) (h := ?_)
     refine done_ (done_of HT_.out (by kernel_rfl)) ?_
     have hnb78 := NB276_275.out
     have hnc78 := NB275_276.out
     have hnb79 := NB276_0.out
     have hnc79 := NB0_276.out
     have hcz80_0 := bc BK276 0
     have hfz80_0 := blk_frozen BK276.out 0
     have p310 : 0 ≤ (t304 : Int) := oda
     have q310 : t304 < (x277000_3.length : Int) := oda
     obtain ⟨ad310, A310_0, c310_0, e310, hx310_0, hl310_0, hi310_0⟩ := at_L4 (Kd.S_reads' HO_277000.out).2.2 t304 p310 q310
     cases e310
     obtain ⟨ce310, hce310, hMe310, hcc310⟩ := Kd.S_get HO_277000.out [] t304 p310 (by exact q310 )
     obtain ⟨ve310_0, rfl, ge310_0⟩ := hMe310
     have hv310_0 := hcc310 0 _ rfl
     rw [Nat.add_zero, show ((Kd.slice 3 (Kd.int .i64))).sz = 1 from rfl, Nat.mul_one] at hv310_0
     replace hv310_0 := Option.some.inj (hv310_0.symm.trans hx310_0)
     rw [hv310_0] at ge310_0
     have HL310_0 := Aside0.mk (show Kd.R (Kd.int .i64) 3 _ _ _ _ (rd_L4 x277000_3 t304) from ge310_0)
     clear hv310_0 ge310_0
     have HX310_0 := Aside0.mk hx310_0
     clear hcc310 hce310
     have HR310_0 := Aside0.mk hi310_0
     have HC310_0 := Aside0.mk hl310_0
     clear hi310_0 hl310_0
     replace p310 := eq_true p310
     replace q310 := eq_true q310
     have p311 : 0 ≤ (t307 : Int) := oda
     have q311 : t307 < (x277000_3.length : Int) := oda
     obtain ⟨ad311, A311_0, c311_0, e311, hx311_0, hl311_0, hi311_0⟩ := at_L4 (Kd.S_reads' HO_277000.out).2.2 t307 p311 q311
     obtain rfl : ad310 = ad311 := (by injection e311)
     obtain ⟨ce311, hce311, hMe311, hcc311⟩ := Kd.S_get HO_277000.out [] t307 p311 (by exact q311 )
     obtain ⟨ve311_0, rfl, ge311_0⟩ := hMe311
     have hv311_0 := hcc311 0 _ rfl
     rw [Nat.add_zero, show ((Kd.slice 3 (Kd.int .i64))).sz = 1 from rfl, Nat.mul_one] at hv311_0
     replace hv311_0 := Option.some.inj (hv311_0.symm.trans hx311_0)
     rw [hv311_0] at ge311_0
     have HL311_0 := Aside0.mk (show Kd.R (Kd.int .i64) 3 _ _ _ _ (rd_L4 x277000_3 t307) from ge311_0)
     clear hv311_0 ge311_0
     have HX311_0 := Aside0.mk hx311_0
     clear hcc311 hce311
     have HR311_0 := Aside0.mk hi311_0
     have HC311_0 := Aside0.mk hl311_0
     clear hi311_0 hl311_0
     replace p311 := eq_true p311
     replace q311 := eq_true q311
     try go_wp2
     go_roundg k3
     case measure => have := HK1.out; have := HK2.out; have := HK3.out; omega
     case rel => exact ⟨(wrap64 (x7_3 - 1)), (t308), (t309), (x277000_3), (.slice (some ad310) x277000_3.length co75), (by rfl ), H', ⟨by have := HK1.out; have := HK2.out; have := HK3.out; omega⟩, ⟨sdl HO_277000⟩, ⟨bkl BK275⟩, ⟨bkl BK276⟩, ⟨IsS47.to HI0⟩, ⟨kee HK⟩, ⟨belA HB⟩⟩
    rw [if_pos c62] at H
    have c62b0 : decide (((rd_L4 x277000_3 t307).length : Int) < 4) = true := decide_eq_true c62
    have c62b1 : decide ((rd_L4 x277000_3 t307).length < 4) = true := decide_eq_true (by omega)
    clear c62
    obtain ⟨t312, A63, H⟩ := bnd H
    try dsimp only at H
    have H' := Aside0.mk H
    clear H
    try go_wp2
    have n0_ := Aside0.mk (Kd.S_drew HO_277000.out)
    have n1_ := Aside0.mk (blk_drew BK275.out)
    have n2_ := Aside0.mk (blk_drew BK276.out)
    have n3_ := Aside0.mk (IsS47.drew HI0.out)
    have n4_ := Aside0.mk (keep_drew HK.out)
    have n5_ := Aside0.mk (below_drew1 HB.out)
    clear HO_277000 BK275 BK276 HI0 HK HB
    have HO_277000 := n0_
    have BK275 := n1_
    have BK276 := n2_
    have HI0 := n3_
    have HK := n4_
    have HB := n5_
    clear n0_ n1_ n2_ n3_ n4_ n5_
    obtain ⟨Ao65, co65, eo65⟩ := Kd.S_slice HO_277000.out
    (subst eo65 )
    refine start_ (n := 12) (S := fun w' => w'.cell? ⟨gb276, 0, none⟩ = some (.slice Ao65 x277000_3.length co65)) (ds := []) #[false, false, false, false, false, false, false, false, false, false, false, false] (by kernel_rfl) rfl rfl ((blk_cell BK276.out 0).trans rfl) (fun hHeld => ?_); refine with_tabW spec_l1Cur_yard.tab15 spec_l1Cur_yard.bits15 (fun HT_ HW_ => ?_)
    generalize wr.drew = w64 at HO_277000 BK275 BK276 HI0 HK HB hHeld ⊢
    refine pu 0 (some 61) (bx 12 1) (h := ?_)
    refine pu 1 (some 62) (bx 12 3) (h := ?_)
    refine pu 5 (some 66) (bx 12 35) (h := ?_)
    refine pu 6 (some 67) (bx 12 99) (h := ?_)
    refine take_ (i := 2) (N := some 63) (v := ?_) (a' := ?_) #[true, true, true, false, false, true, true, false, false, false, false, false] rfl rfl (take_ofW HT_.out HW_.out (by kernel_rfl)) (fun _ _ _ h => h) (Or.inl ⟨by rfl, ?_⟩) hHeld ?_ ?_
    rotate_left
    ·intro w' s0
     go_simp
     with_reducible rfl
    rotate_left
    ·simp only [putS]
     rfl
    refine pu 3 (some 64) (bx 12 111) (h := ?_)
    refine take_ (i := 7) (N := some 68) (v := ?_) (a' := ?_) #[true, true, true, true, false, true, true, true, false, false, false, false] rfl rfl (take_ofW HT_.out HW_.out (by kernel_rfl)) (fun _ _ _ h => h) (Or.inl ⟨by rfl, ?_⟩) hHeld ?_ ?_
    rotate_left
    ·intro w' s0
     go_simp
     with_reducible rfl
    rotate_left
    ·simp only [putS]
     rfl
    refine pu 8 (some 69) (bx 12 495) (h := ?_)
    refine on 4 (some 65) (bx 12 511) (h := fun K hK => ?_)
    refine goes_ Try.func16 (by kernel_rfl) rfl #[.pointer (some ⟨g, 0, none⟩), .int .i64 (x277000_3.length : Int)] (by rfl) rfl rfl gmp ?_
    with_reducible refine (spec_l1Cur_pick.calls g s0_0 x1001_3 x1002_3 (x277000_3.length : Int) t304 t305 t306 w0 _ ?side1 ?side2 A50.out).mono ?_
    (case side1 => exact IsS47.to HI0)
    (case side2 => exact belA HB)
    rintro e w66 ⟨rfl, hi, hb, hk⟩
    refine ⟨_, rfl, ?_⟩
    have n0_ := Aside0.mk (Kd.S_mono (Kd.S_keep (IsS47.apartS (show IsS47 w0 _ g s0_0 x1001_3 x1002_3 from IsS47.to HI0) (sdl HO_277000) (by decide)) hk (fun _ h => h.2)) (fun _ h => h.1))
    have n1_ := kbk hk BK275 NB275_0
    have n2_ := kbk hk BK276 NB276_0
    have n3_ := Aside0.mk (KeepBut.trans (kee HK) hk (.inl rfl))
    have n4_ := Aside0.mk (hb)
    have n5_ := Aside0.mk (hi)
    clear HO_277000 BK275 BK276 HK HB HI0
    have HO_277000 := n0_
    have BK275 := n1_
    have BK276 := n2_
    have HK := n3_
    have HB := n4_
    have HI0 := n5_
    clear n0_ n1_ n2_ n3_ n4_ n5_
    (try clear hb)
    (try clear hk)
    (try clear hi)
    refine hK.out _ _ ((blk_cell BK276.out 0).trans rfl) (fun hHeld => ?_)
    clear hK K
    refine nm 65 (h := ?_)
    refine on 9 (some 70) (bx 12 1023) (h := fun K hK => ?_)
    refine goes_ Try.func16 (by kernel_rfl) rfl #[.pointer (some ⟨g, 0, none⟩), .int .i64 (x277000_3.length : Int)] (by rfl) rfl rfl gmp ?_
    with_reducible refine (spec_l1Cur_pick.calls g s0_0 t305 t306 (x277000_3.length : Int) t307 t308 t309 w0 _ ?side1 ?side2 A51.out).mono ?_
    (case side1 => exact IsS47.to HI0)
    (case side2 => exact belA HB)
    rintro e w67 ⟨rfl, hi, hb, hk⟩
    refine ⟨_, rfl, ?_⟩
    have n0_ := Aside0.mk (Kd.S_mono (Kd.S_keep (IsS47.apartS (show IsS47 w0 _ g s0_0 t305 t306 from IsS47.to HI0) (sdl HO_277000) (by decide)) hk (fun _ h => h.2)) (fun _ h => h.1))
    have n1_ := kbk hk BK275 NB275_0
    have n2_ := kbk hk BK276 NB276_0
    have n3_ := Aside0.mk (KeepBut.trans (kee HK) hk (.inl rfl))
    have n4_ := Aside0.mk (hb)
    have n5_ := Aside0.mk (hi)
    clear HO_277000 BK275 BK276 HK HB HI0
    have HO_277000 := n0_
    have BK275 := n1_
    have BK276 := n2_
    have HK := n3_
    have HB := n4_
    have HI0 := n5_
    clear n0_ n1_ n2_ n3_ n4_ n5_
    (try clear hb)
    (try clear hk)
    (try clear hi)
    refine hK.out _ _ ((blk_cell BK276.out 0).trans rfl) (fun hHeld => ?_)
    clear hK K
    refine nm 70 (h := ?_)
    refine pu 10 (some 8) (bx 12 2047) (h := ?_)
    refine pu 11 (some 9) (bx 12 4095) (h := ?_)
    refine done_ (done_of HT_.out (by kernel_rfl)) ?_
    have hnb68 := NB276_275.out
    have hnc68 := NB275_276.out
    have hnb69 := NB276_0.out
    have hnc69 := NB0_276.out
    have hcz70_0 := bc BK276 0
    have hfz70_0 := blk_frozen BK276.out 0
    have p310 : 0 ≤ (t304 : Int) := oda
    have q310 : t304 < (x277000_3.length : Int) := oda
    obtain ⟨ad310, A310_0, c310_0, e310, hx310_0, hl310_0, hi310_0⟩ := at_L4 (Kd.S_reads' HO_277000.out).2.2 t304 p310 q310
    cases e310
    obtain ⟨ce310, hce310, hMe310, hcc310⟩ := Kd.S_get HO_277000.out [] t304 p310 (by exact q310 )
    obtain ⟨ve310_0, rfl, ge310_0⟩ := hMe310
    have hv310_0 := hcc310 0 _ rfl
    rw [Nat.add_zero, show ((Kd.slice 3 (Kd.int .i64))).sz = 1 from rfl, Nat.mul_one] at hv310_0
    replace hv310_0 := Option.some.inj (hv310_0.symm.trans hx310_0)
    rw [hv310_0] at ge310_0
    have HL310_0 := Aside0.mk (show Kd.R (Kd.int .i64) 3 _ _ _ _ (rd_L4 x277000_3 t304) from ge310_0)
    clear hv310_0 ge310_0
    have HX310_0 := Aside0.mk hx310_0
    clear hcc310 hce310
    have HR310_0 := Aside0.mk hi310_0
    have HC310_0 := Aside0.mk hl310_0
    clear hi310_0 hl310_0
    replace p310 := eq_true p310
    replace q310 := eq_true q310
    have p311 : 0 ≤ (t307 : Int) := oda
    have q311 : t307 < (x277000_3.length : Int) := oda
    obtain ⟨ad311, A311_0, c311_0, e311, hx311_0, hl311_0, hi311_0⟩ := at_L4 (Kd.S_reads' HO_277000.out).2.2 t307 p311 q311
    obtain rfl : ad310 = ad311 := (by injection e311)
    obtain ⟨ce311, hce311, hMe311, hcc311⟩ := Kd.S_get HO_277000.out [] t307 p311 (by exact q311 )
    obtain ⟨ve311_0, rfl, ge311_0⟩ := hMe311
    have hv311_0 := hcc311 0 _ rfl
    rw [Nat.add_zero, show ((Kd.slice 3 (Kd.int .i64))).sz = 1 from rfl, Nat.mul_one] at hv311_0
    replace hv311_0 := Option.some.inj (hv311_0.symm.trans hx311_0)
    rw [hv311_0] at ge311_0
    have HL311_0 := Aside0.mk (show Kd.R (Kd.int .i64) 3 _ _ _ _ (rd_L4 x277000_3 t307) from ge311_0)
    clear hv311_0 ge311_0
    have HX311_0 := Aside0.mk hx311_0
    clear hcc311 hce311
    have HR311_0 := Aside0.mk hi311_0
    have HC311_0 := Aside0.mk hl311_0
    clear hi311_0 hl311_0
    replace p311 := eq_true p311
    replace q311 := eq_true q311
    try go_wp2_with (first | ((with_reducible refine gate_callee (f := 32) rfl ?_); refine goesL_ (some 95) rfl rfl Try.func32 (by kernel_rfl) rfl #[.agg #[.slice (some ad310) x277000_3.length co65], .int .i64 t304, .int .i64 t307] rfl gmp ?_; (with_reducible refine (spec_l5Move.calls k3 _ _ x277000_3 t304 t307 t312 _ ?side1 ?side2 A63.out).mono ?_); (case side1 => repeat (exact (Kd.S_reads' HO_277000.out).2.2 )); (case side2 => exact (Kd.S_reads' HO_277000.out).2.1); rintro e w71 ⟨v313, rfl, ho0, hb⟩; refine ⟨_, rfl, ?_⟩; have HO314 := Aside0.mk (Kd.S_lower (Kd.S_new' (Kd.S_new' (Kd.S_new' ho0 (Kd.S_lt (sdl HO_277000))) (Kd.R_lt (rdl HL310_0))) (Kd.R_lt (rdl HL311_0))) (keep_size (w := w) (g := g) (row := none) (kee HK))); replace HO_277000 := Aside0.mk (Kd.S_elder' (sdl HO_277000) (Kd.S_base ho0) hb); replace HL310_0 := Aside0.mk (Kd.R_below (rdl HL310_0) hb); replace HL311_0 := Aside0.mk (Kd.R_below (rdl HL311_0) hb); replace BK275 := bkb BK275 hb; replace BK276 := bkb BK276 hb; replace HI0 := Aside0.mk (IsS47.below (IsS47.to HI0) hb); replace HR310_0 := Aside0.mk (Kd.C_below (by repeat ((with_reducible exact HR310_0.out) )) hb); replace HX310_0 := Aside0.mk (pw_cell_below hb HX310_0.out); replace HR311_0 := Aside0.mk (Kd.C_below (by repeat ((with_reducible exact HR311_0.out) )) hb); replace HX311_0 := Aside0.mk (pw_cell_below hb HX311_0.out); replace HK := Aside0.mk (KeepBut.trans (kee HK) (KeepBut.of_below hb g none) (.inl rfl)); replace HB := Aside0.mk (below_step (belA HB) hb); (try clear hb); (try clear ho0); obtain ⟨Ao72, co72, eo72⟩ := Kd.S_slice HO314.out; subst eo72; obtain ⟨_, _⟩ := bf1 BK276))
    go_roundg k3
    case measure => have := HK1.out; have := HK2.out; have := HK3.out; omega
    case rel => exact ⟨(wrap64 (x7_3 - 1)), (t308), (t309), (t312), (.slice Ao72 t312.length co72), (by rfl ), H', ⟨by have := HK1.out; have := HK2.out; have := HK3.out; omega⟩, ⟨by exact Kd.S_mono (Kd.S_far (p := ⟨gb276, 0, none⟩) (Kd.S_types HO314.out BK276.out (by decide)) (fun _ hk => hk.2) (.slice Ao72 t312.length co72)) (fun _ hk => trivial)⟩, ⟨by refine blk_far ?_ NB275_276.out _; exact BK275.out⟩, ⟨by refine blk_put (cs := #[.slice (some ad310) x277000_3.length co65]) ?_ 0 _ rfl; exact BK276.out⟩, ⟨IsS47.to HI0⟩, ⟨kee HK⟩, ⟨belA HB⟩⟩
end Go.Proofs.Ytemildnlfjijmaa.P
