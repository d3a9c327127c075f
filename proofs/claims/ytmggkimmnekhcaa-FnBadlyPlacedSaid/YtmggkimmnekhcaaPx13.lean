-- Written by a program of this session over the translation (a variant of the printer, see wip/gen); Lean checks it.
import Derived.Test.YtmggkimmnekhcaaPx0
import Derived.Test.YtmggkimmnekhcaaPx7
import Derived.Test.YtmggkimmnekhcaaPx9
import Derived.Test.YtmggkimmnekhcaaPx11
import Derived.Test.YtmggkimmnekhcaaPx12
namespace Go.Proofs.Ytmggkimmnekhcaa.P
open Go.RowKit Go.Proofs.YtmggkimmnekhcaaW.PrintWords Go.Proofs.YtmggkimmnekhcaaW.PrintLast Go.Proofs.YtmggkimmnekhcaaW.PrintMore
attribute [local go_sem] Go.Proofs.Ytmggkimmnekhcaa.V.isSome_setCell max2_int min2_int max_two min_two max_three min_three max_four min_four
set_option linter.unusedVariables false
set_option linter.unusedSimpArgs false
/-! ### spec_l8Bad: function 31 -/
mutual
def spec_l8Bad.l0 : Nat → List Int → Int → List (List Int) → Option (List Int)
 | 0, _, _, _ => none
 | k + 1, x3, x4, x310000 => if x4 < (x310000.length : Int) then (spec_l8Bad.l1 k x3 x4 0 x310000) else (some x3)
def spec_l8Bad.l1 : Nat → List Int → Int → Int → List (List Int) → Option (List Int)
 | 0, _, _, _, _ => none
 | k + 1, x3, x4, x5, x310000 => if 0 ≤ x4 then (if x4 < (x310000.length : Int) then (if x5 < ((rd_L2 x310000 x4).length : Int) then ((spec_l8Below.f k (rd_L2 x310000 x4) x5).bind fun t315 => (if t315 > 0 then (if 0 ≤ x5 then ((spec_l1Put.f k x3 (rd (rd_L2 x310000 x4) x5)).bind fun t318 => (spec_l8Bad.l1 k t318 x4 (wrap64 (x5 + 1)) x310000)) else (none)) else (spec_l8Bad.l1 k x3 x4 (wrap64 (x5 + 1)) x310000))) else (spec_l8Bad.l0 k x3 (wrap64 (x4 + 1)) x310000)) else (none)) else (none)
end
def spec_l8Bad.f (k : Nat) (l0_0 : List (List Int)) : Option (List Int) := spec_l8Bad.l0 k (([] : List Int)) 0 l0_0
theorem spec_l8Bad.mono_l : ∀ k, (∀ y0 y1 y2, LeO (spec_l8Bad.l0 k y0 y1 y2) (spec_l8Bad.l0 (k + 1) y0 y1 y2)) ∧ (∀ y0 y1 y2 y3, LeO (spec_l8Bad.l1 k y0 y1 y2 y3) (spec_l8Bad.l1 (k + 1) y0 y1 y2 y3))
 | 0 => ⟨fun _ _ _ r h => by simp [spec_l8Bad.l0] at h, fun _ _ _ _ r h => by simp [spec_l8Bad.l1] at h⟩
 | k + 1 => by
  obtain ⟨ih0, ih1⟩ := spec_l8Bad.mono_l k
  refine ⟨?_, ?_⟩
  ·intro y0 y1 y2
   unfold spec_l8Bad.l0
   repeat' first
   | (with_reducible exact ih0 _ _ _)
   | (with_reducible exact ih1 _ _ _ _)
   | (with_reducible exact spec_l1Put.mono _ _ _)
   | (with_reducible exact spec_l8Below.mono _ _ _)
   | (with_reducible exact LeO.refl _)
   | (with_reducible exact LeO.none _)
   | (with_reducible refine LeO.ite ?_ ?_)
   | (with_reducible refine LeO.bind ?_ (fun _ => ?_))
   | exact ih0 _ _ _
   | exact ih1 _ _ _ _
   | exact spec_l1Put.mono _ _ _
   | exact spec_l8Below.mono _ _ _
   | exact LeO.none _
   | refine LeO.ite ?_ ?_
   | refine LeO.bind ?_ (fun _ => ?_)
  ·intro y0 y1 y2 y3
   unfold spec_l8Bad.l1
   repeat' first
   | (with_reducible exact ih0 _ _ _)
   | (with_reducible exact ih1 _ _ _ _)
   | (with_reducible exact spec_l1Put.mono _ _ _)
   | (with_reducible exact spec_l8Below.mono _ _ _)
   | (with_reducible exact LeO.refl _)
   | (with_reducible exact LeO.none _)
   | (with_reducible refine LeO.ite ?_ ?_)
   | (with_reducible refine LeO.bind ?_ (fun _ => ?_))
   | exact ih0 _ _ _
   | exact ih1 _ _ _ _
   | exact spec_l1Put.mono _ _ _
   | exact spec_l8Below.mono _ _ _
   | exact LeO.none _
   | refine LeO.ite ?_ ?_
   | refine LeO.bind ?_ (fun _ => ?_)
theorem spec_l8Bad.mono : ∀ a0 k, LeO (spec_l8Bad.f k a0) (spec_l8Bad.f (k + 1) a0) := by
 intro a0 k
 obtain ⟨ih0, ih1⟩ := spec_l8Bad.mono_l k
 unfold spec_l8Bad.f
 repeat' first
   | (with_reducible exact ih0 _ _ _)
   | (with_reducible exact ih1 _ _ _ _)
   | (with_reducible exact spec_l1Put.mono _ _ _)
   | (with_reducible exact spec_l8Below.mono _ _ _)
   | (with_reducible exact LeO.refl _)
   | (with_reducible exact LeO.none _)
   | (with_reducible refine LeO.ite ?_ ?_)
   | (with_reducible refine LeO.bind ?_ (fun _ => ?_))
   | exact ih0 _ _ _
   | exact ih1 _ _ _ _
   | exact spec_l1Put.mono _ _ _
   | exact spec_l8Below.mono _ _ _
   | exact LeO.none _
   | refine LeO.ite ?_ ?_
   | refine LeO.bind ?_ (fun _ => ?_)
set_option maxHeartbeats 8000000 in
set_option maxRecDepth 100000 in
theorem spec_l8Bad.calls (k : Nat) (A0_0 : Option Addr) (c0_0 : Nat) (l0_0 : List (List Int)) (r : List Int) (w : World) (hr0_0 : Kd.C (Kd.slice 3 (Kd.int .i64)) w A0_0 l0_0.length l0_0) (hc0_0 : l0_0.length ≤ c0_0) (h : spec_l8Bad.f k l0_0 = some r) :
  Calls Try.prog 31 #[.agg #[.slice A0_0 l0_0.length c0_0]] w fun e w' => ∃ v0_ : Value, e = .returned (v0_) ∧ Kd.V (Kd.int .i64) 3 w' w.heap.size (fun k_ => (w.heap.size ≤ k_)) v0_ r ∧ Below w.heap.size w w' := by
 have hu26 := Try.underlying26
 have HR0_0 := Aside0.mk hr0_0
 have HC0_0 := Aside0.mk hc0_0
 clear hr0_0 hc0_0
 have HB := Aside0.mk (Below.refl w.heap.size w)
 have H : (spec_l8Bad.l0 k (([] : List Int)) 0 l0_0) = some r := h
 clear h
 obtain ⟨y310, hy310⟩ : ∃ y_ : List Int, y_ = (([] : List Int)) := ⟨_, rfl⟩
 replace H : (spec_l8Bad.l0 k y310 0 l0_0) = some r := by first | (rw [hy310]; with_reducible exact H) | (have H2_ := (Option.bind_some _ _).symm.trans H; rw [hy310]; with_reducible exact H2_) | (have H2_ := (Option.bind_some _ _).symm.trans H; with_reducible exact H2_) | with_reducible exact H | (rw [hy310]; exact H) | exact H
 have Ny310 := Aside0.mk hy310
 clear hy310
 have H' := Aside0.mk H
 clear H
 go_enter Try.func31, Try.ntmps31
 go_wp2_with (first | ((with_reducible refine gate_dst (N := 1) rfl ?_); refine box_event ?hg (N := 1) ?hd (cs := #[.slice A0_0 l0_0.length c0_0]) (t := 26) ?hr ?_; (case hd => rfl); (case hg => rfl); (case hr => first | (go_simp; done) | (go_simp; rfl)); intro gb309 hg w2 hbox hb; have n0_ := Aside0.mk (below_step (bel HB) hb); have n1_ := Aside0.mk (hbox); have n2_ := Aside0.mk ((by rw [hg]; exact (below_size (bel HB)) : w.heap.size ≤ gb309)); have n3_ := Aside0.mk ((by rw [hg]; exact (below_size (bel HB)) : w.heap.size ≤ gb309)); clear HB; have HB := n0_; have BK309 := n1_; have GW309 := n2_; have GE309 := n3_; clear n0_ n1_ n2_ n3_; clear hb hbox hg) | ((with_reducible refine gate_dst (N := 6) rfl ?_); refine Kd.R_lit (Kd.int .i64) _ 3 ?hg (N := 6) ?hd (xs := ([] : List Int)) (inner := []) (ok := fun _ => True) (okp := fun _ => True) ?hr ?hp (fun _ hk => hk) trivial (Below.refl _ _) (Nat.le_refl _) (by simp) ?_; (case hd => rfl); (case hg => rfl); (case hr => first | (go_simp; done) | (go_simp; rfl)); (case hp => exact (Reps.none _ _)); intro v311 w3 ho4 hb hg_ hnew_; clear hg_ hnew_; (first | rw [← Ny310.out] at ho4 | (simp only [Int.reduceToNat] at ho4; rw [← Ny310.out] at ho4)); have n0_ := Aside0.mk (Kd.R_lower (Kd.R_newM (M := fun k_ => (w.heap.size ≤ k_)) ho4 (below_size (bel1 HB GE309)) (fun k_ h_ => h_)) (below_size (bel1 HB GE309))); have n1_ := Aside0.mk (blk_below (g := gb309) (o := .cells #[.slice A0_0 l0_0.length c0_0] 26 (0, 0)) (bkl BK309) hb); have n2_ := Aside0.mk (below_step (bel1 HB GE309) hb); clear BK309; clear HB; have HO312 := n0_; have BK309 := n1_; have HB := n2_; clear n0_ n1_ n2_; clear hb ho4))
 go_loopg [3, 4] k (fun kq v3 v4 w' => ∃ (x3_1 : List Int) (x4_1 : Int), v4 = .int .i64 x4_1 ∧ Aside0 (spec_l8Bad.l0 kq x3_1 x4_1 l0_0 = some r) ∧ Aside0 (kq ≤ k) ∧ Aside0 (Kd.V (Kd.int .i64) 3 w' w.heap.size (fun k_ => (w.heap.size ≤ k_) ∧ k_ ≠ gb309) v3 x3_1) ∧ Aside0 (w'.heap[gb309]? = some (.cells #[(.slice A0_0 l0_0.length c0_0)] 26 (0, 0))) ∧ Aside0 (Below w.heap.size w w'))
 case atStart => exact ⟨(y310), (0), (by first | rfl | (simp; done) | (simp [*]; done)), H', ⟨Nat.le_refl _⟩, ⟨Kd.R_V (by (with_reducible repeat (first | apply Kd.R_alloc | apply Kd.R_drewN | apply Kd.R_drew)); exact Kd.R_mono (Kd.R_types HO312.out BK309.out (by decide)) (fun _ hk => ⟨hk.1.1, hk.2⟩))⟩, ⟨bkl BK309⟩, ⟨bel1 HB GE309⟩⟩
 clear H'
 try clear p2
 try clear c3
 obtain ⟨x3_1, x4_1, rfl, HA, HK1, HO_3, BK309, HB⟩ := hrel
 cases gk with
 | zero => exact absurd HA.out (by simp [spec_l8Bad.l0])
 | succ k1 =>
  have H := HA.out
  clear HA
  simp only [spec_l8Bad.l0] at H
  by_cases c5 : x4_1 < (l0_0.length : Int)
  rotate_left
  ·rw [if_neg c5] at H
   have c5b0 : decide (x4_1 < (l0_0.length : Int)) = false := decide_eq_false c5
   clear c5
   obtain rfl := Option.some.inj H
   have hcz19_0 : wr.cell? ⟨gb309, 0, none⟩ = some (.slice A0_0 l0_0.length c0_0) := (blk_cell BK309.out 0).trans rfl
   have hfz19_0 := blk_frozen BK309.out 0
   go_wp2
   go_ret
   exact ⟨_, by first | rfl | (simp [errW_none, errW_some] <;> rfl) | (simp [*, errW_none, errW_some] <;> rfl), by (with_reducible repeat (first | apply Kd.V_alloc | apply Kd.V_drewN | apply Kd.V_drew)); exact Kd.V_mono HO_3.out (fun _ hk => hk.1), bel1 HB GE309⟩
  rw [if_pos c5] at H
  have c5b0 : decide (x4_1 < (l0_0.length : Int)) = true := decide_eq_true c5
  clear c5
  have H' := Aside0.mk H
  clear H
  have hcz6_0 : wr.cell? ⟨gb309, 0, none⟩ = some (.slice A0_0 l0_0.length c0_0) := (blk_cell BK309.out 0).trans rfl
  have hfz6_0 := blk_frozen BK309.out 0
  go_wp2
  go_loopg [3, 5] k1 (fun kq v3 v5 w' => ∃ (x3_2 : List Int) (x5_2 : Int), v5 = .int .i64 x5_2 ∧ Aside0 (spec_l8Bad.l1 kq x3_2 x4_1 x5_2 l0_0 = some r) ∧ Aside0 (kq ≤ k1) ∧ Aside0 (Kd.V (Kd.int .i64) 3 w' w.heap.size (fun k_ => (w.heap.size ≤ k_) ∧ k_ ≠ gb309) v3 x3_2) ∧ Aside0 (w'.heap[gb309]? = some (.cells #[(.slice A0_0 l0_0.length c0_0)] 26 (0, 0))) ∧ Aside0 (Below w.heap.size w w'))
  case atStart => exact ⟨(x3_1), (0), (by first | rfl | (simp; done) | (simp [*]; done)), H', ⟨Nat.le_refl _⟩, ⟨by (with_reducible repeat (first | apply Kd.V_alloc | apply Kd.V_drewN | apply Kd.V_drew)); exact HO_3.out⟩, ⟨bkl BK309⟩, ⟨bel1 HB GE309⟩⟩
  clear H'
  try clear p2
  try clear c3
  try clear c5
  try clear c5b0
  try clear hcz6_0
  try clear hfz6_0
  try clear p2
  obtain ⟨x3_2, x5_2, rfl, HA, HK2, HO_3, BK309, HB⟩ := hrel
  cases gk with
  | zero => exact absurd HA.out (by simp [spec_l8Bad.l1])
  | succ k2 =>
   have H := HA.out
   clear HA
   simp only [spec_l8Bad.l1] at H
   by_cases c7 : 0 ≤ x4_1
   rotate_left
   ·rw [if_neg c7] at H
    exact absurd H (by simp)
   rw [if_pos c7] at H
   have c7b0 : decide (0 ≤ x4_1) = true := decide_eq_true c7
   clear c7
   by_cases c8 : x4_1 < (l0_0.length : Int)
   rotate_left
   ·rw [if_neg c8] at H
    exact absurd H (by simp)
   rw [if_pos c8] at H
   have c8b0 : decide (x4_1 < (l0_0.length : Int)) = true := decide_eq_true c8
   clear c8
   by_cases c9 : x5_2 < ((rd_L2 l0_0 x4_1).length : Int)
   rotate_left
   ·rw [if_neg c9] at H
    have c9b0 : decide (x5_2 < ((rd_L2 l0_0 x4_1).length : Int)) = false := decide_eq_false c9
    clear c9
    have H' := Aside0.mk H
    clear H
    have hcz18_0 : wr.cell? ⟨gb309, 0, none⟩ = some (.slice A0_0 l0_0.length c0_0) := (blk_cell BK309.out 0).trans rfl
    have hfz18_0 := blk_frozen BK309.out 0
    have p313 : 0 ≤ (x4_1 : Int) := oda
    have q313 : x4_1 < (l0_0.length : Int) := oda
    obtain ⟨ad313, A313_0, c313_0, e313, hx313_0, hl313_0, hi313_0⟩ := at_L2 HR0_0.out x4_1 p313 q313
    cases e313
    replace hx313_0 := cel HB hx313_0
    have HR313_0 := Aside0.mk hi313_0
    have HC313_0 := Aside0.mk hl313_0
    clear hi313_0 hl313_0
    replace p313 := eq_true p313
    replace q313 := eq_true q313
    go_wp2
    go_roundg k2
    case measure => have := HK1.out; have := HK2.out; omega
    case rel => exact ⟨(x3_2), (wrap64 (x4_1 + 1)), (by first | rfl | (simp; done) | (simp [*]; done)), H', ⟨by have := HK1.out; have := HK2.out; omega⟩, ⟨by (with_reducible repeat (first | apply Kd.V_alloc | apply Kd.V_drewN | apply Kd.V_drew)); exact HO_3.out⟩, ⟨bkl BK309⟩, ⟨bel1 HB GE309⟩⟩
   rw [if_pos c9] at H
   have c9b0 : decide (x5_2 < ((rd_L2 l0_0 x4_1).length : Int)) = true := decide_eq_true c9
   clear c9
   replace H := Option.bind_eq_some_iff.mp H
   obtain ⟨t315, A100, H⟩ := H
   replace H : (if t315 > 0 then (if 0 ≤ x5_2 then ((spec_l1Put.f k2 x3_2 (rd (rd_L2 l0_0 x4_1) x5_2)).bind fun t318 => (spec_l8Bad.l1 k2 t318 x4_1 (wrap64 (x5_2 + 1)) l0_0)) else (none)) else (spec_l8Bad.l1 k2 x3_2 x4_1 (wrap64 (x5_2 + 1)) l0_0)) = some r := H
   have A10 := Aside0.mk A100
   clear A100
   by_cases c11 : t315 > 0
   rotate_left
   ·rw [if_neg c11] at H
    have c11b0 : decide (0 < t315) = false := decide_eq_false c11
    clear c11
    have H' := Aside0.mk H
    clear H
    have hcz17_0 : wr.cell? ⟨gb309, 0, none⟩ = some (.slice A0_0 l0_0.length c0_0) := (blk_cell BK309.out 0).trans rfl
    have hfz17_0 := blk_frozen BK309.out 0
    have p313 : 0 ≤ (x4_1 : Int) := oda
    have q313 : x4_1 < (l0_0.length : Int) := oda
    obtain ⟨ad313, A313_0, c313_0, e313, hx313_0, hl313_0, hi313_0⟩ := at_L2 HR0_0.out x4_1 p313 q313
    cases e313
    replace hx313_0 := cel HB hx313_0
    have HR313_0 := Aside0.mk hi313_0
    have HC313_0 := Aside0.mk hl313_0
    clear hi313_0 hl313_0
    replace p313 := eq_true p313
    replace q313 := eq_true q313
    have p314 : 0 ≤ (x4_1 : Int) := oda
    have q314 : x4_1 < (l0_0.length : Int) := oda
    obtain ⟨ad314, A314_0, c314_0, e314, hx314_0, hl314_0, hi314_0⟩ := at_L2 HR0_0.out x4_1 p314 q314
    obtain rfl : ad313 = ad314 := (by injection e314)
    replace hx314_0 := cel HB hx314_0
    have HR314_0 := Aside0.mk hi314_0
    have HC314_0 := Aside0.mk hl314_0
    clear hi314_0 hl314_0
    replace p314 := eq_true p314
    replace q314 := eq_true q314
    have ea_ := Option.some.inj (hx313_0.symm.trans hx314_0)
    injection ea_ with ea_ en_ ec_
    subst ea_
    subst ec_
    clear en_
    go_wp2_with (first | ((with_reducible refine gate_callee (f := 33) rfl ?_); refine goesL_ (some 30) rfl rfl Try.func33 (by kernel_rfl) rfl #[.slice A313_0 (rd_L2 l0_0 x4_1).length c313_0, .int .i64 x5_2] rfl gmp ?_; (with_reducible refine (spec_l8Below.calls k2 _ _ (rd_L2 l0_0 x4_1) x5_2 t315 _ ?side1 ?side2 A10.out).mono ?_); (case side1 => exact cdl (Kd.C_below HR314_0.out HB.out)); (case side2 => exact HC314_0.out); rintro e w' ⟨rfl, ⟨nd, rfl⟩⟩; refine ⟨_, rfl, ?_⟩))
    go_roundg k2
    case measure => have := HK1.out; have := HK2.out; omega
    case rel => exact ⟨(x3_2), (wrap64 (x5_2 + 1)), (by first | rfl | (simp; done) | (simp [*]; done)), H', ⟨by have := HK1.out; have := HK2.out; omega⟩, ⟨by (with_reducible repeat (first | apply Kd.V_alloc | apply Kd.V_drewN | apply Kd.V_drew)); exact HO_3.out⟩, ⟨bkl BK309⟩, ⟨bel1 HB GE309⟩⟩
   rw [if_pos c11] at H
   have c11b0 : decide (0 < t315) = true := decide_eq_true c11
   clear c11
   by_cases c12 : 0 ≤ x5_2
   rotate_left
   ·rw [if_neg c12] at H
    exact absurd H (by simp)
   rw [if_pos c12] at H
   have c12b0 : decide (0 ≤ x5_2) = true := decide_eq_true c12
   clear c12
   replace H := Option.bind_eq_some_iff.mp H
   obtain ⟨t318, A130, H⟩ := H
   replace H : (spec_l8Bad.l1 k2 t318 x4_1 (wrap64 (x5_2 + 1)) l0_0) = some r := H
   have A13 := Aside0.mk A130
   clear A130
   have H' := Aside0.mk H
   clear H
   have hcz14_0 : wr.cell? ⟨gb309, 0, none⟩ = some (.slice A0_0 l0_0.length c0_0) := (blk_cell BK309.out 0).trans rfl
   have hfz14_0 := blk_frozen BK309.out 0
   have p313 : 0 ≤ (x4_1 : Int) := oda
   have q313 : x4_1 < (l0_0.length : Int) := oda
   obtain ⟨ad313, A313_0, c313_0, e313, hx313_0, hl313_0, hi313_0⟩ := at_L2 HR0_0.out x4_1 p313 q313
   cases e313
   replace hx313_0 := cel HB hx313_0
   have HR313_0 := Aside0.mk hi313_0
   have HC313_0 := Aside0.mk hl313_0
   clear hi313_0 hl313_0
   replace p313 := eq_true p313
   replace q313 := eq_true q313
   have p314 : 0 ≤ (x4_1 : Int) := oda
   have q314 : x4_1 < (l0_0.length : Int) := oda
   obtain ⟨ad314, A314_0, c314_0, e314, hx314_0, hl314_0, hi314_0⟩ := at_L2 HR0_0.out x4_1 p314 q314
   obtain rfl : ad313 = ad314 := (by injection e314)
   replace hx314_0 := cel HB hx314_0
   have HR314_0 := Aside0.mk hi314_0
   have HC314_0 := Aside0.mk hl314_0
   clear hi314_0 hl314_0
   replace p314 := eq_true p314
   replace q314 := eq_true q314
   have ea_ := Option.some.inj (hx313_0.symm.trans hx314_0)
   injection ea_ with ea_ en_ ec_
   subst ea_
   subst ec_
   clear en_
   go_wp2_with (first | ((with_reducible refine gate_callee (f := 33) rfl ?_); refine goesL_ (some 30) rfl rfl Try.func33 (by kernel_rfl) rfl #[.slice A313_0 (rd_L2 l0_0 x4_1).length c313_0, .int .i64 x5_2] rfl gmp ?_; (with_reducible refine (spec_l8Below.calls k2 _ _ (rd_L2 l0_0 x4_1) x5_2 t315 _ ?side1 ?side2 A10.out).mono ?_); (case side1 => exact cdl (Kd.C_below HR314_0.out HB.out)); (case side2 => exact HC314_0.out); rintro e w' ⟨rfl, ⟨nd, rfl⟩⟩; refine ⟨_, rfl, ?_⟩; have p316 : 0 ≤ (x4_1 : Int) := oda; have q316 : x4_1 < (l0_0.length : Int) := oda; obtain ⟨ad316, A316_0, c316_0, e316, hx316_0, hl316_0, hi316_0⟩ := at_L2 HR0_0.out x4_1 p316 q316; obtain rfl : ad313 = ad316 := (by injection e316); replace hx316_0 := cel HB hx316_0; have HR316_0 := Aside0.mk hi316_0; have HC316_0 := Aside0.mk hl316_0; clear hi316_0 hl316_0; replace p316 := eq_true p316; replace q316 := eq_true q316; have ea_ := Option.some.inj (hx313_0.symm.trans hx316_0); injection ea_ with ea_ en_ ec_; subst ea_; subst ec_; clear en_; have p317 : 0 ≤ (x5_2 : Int) := oda; have q317 : x5_2 < ((rd_L2 l0_0 x4_1).length : Int) := oda; obtain ⟨ad317, e317, hx317_0⟩ := Kd.at_int HR316_0.out x5_2 p317 q317; cases e317; replace hx317_0 := cel HB hx317_0; replace p317 := eq_true p317; replace q317 := eq_true q317; obtain ⟨Ao15, co15, eo15⟩ := Kd.V_slice HO_3.out; subst eo15) | ((with_reducible refine gate_callee (f := 57) rfl ?_); refine goesL_ (some 41) rfl rfl Try.func57 (by kernel_rfl) rfl #[.slice Ao15 x3_2.length co15, .int .i64 (rd (rd_L2 l0_0 x4_1) x5_2)] rfl gmp ?_; (with_reducible refine (spec_l1Put.calls k2 (fun k_ => ((w.heap.size ≤ k_) ∧ k_ ≠ gb309)) _ _ x3_2 (rd (rd_L2 l0_0 x4_1) x5_2) t318 _ ?side1 A13.out).mono ?_); (case side1 => exact HO_3.out); rintro e w16 ⟨v319, rfl, ho0, hb⟩; refine ⟨_, rfl, ?_⟩; have n0_ := Aside0.mk (Kd.V_below (vdl HO_3) hb); have n1_ := Aside0.mk (Kd.V_lower (Kd.V_mono (ok' := fun k_ => (w.heap.size ≤ k_) ∧ k_ ≠ gb309) ho0 (fun k_ hk_ => ⟨Or.elim hk_ (fun hs_ => hs_.1) (fun hn_ => (Nat.le_trans (below_size (bel1 HB GE309)) hn_)), Or.elim hk_ (fun hs_ => hs_.2) (fun hn_ => (Kd.freshB (g := gb309) (o := .cells #[.slice (some ad313) l0_0.length c0_0] 26 (0, 0)) (bkl BK309) k_ hn_))⟩)) (below_size (bel1 HB GE309))); have n2_ := Aside0.mk (blk_below (g := gb309) (o := .cells #[.slice (some ad313) l0_0.length c0_0] 26 (0, 0)) (bkl BK309) hb); have n3_ := Aside0.mk (below_step (bel1 HB GE309) hb); clear HO_3; clear BK309; clear HB; have HO_3 := n0_; have HO320 := n1_; have BK309 := n2_; have HB := n3_; clear n0_ n1_ n2_ n3_; (try clear hb); (try clear hb2); (try clear hk); (try clear hi); (try clear ho0)))
   go_roundg k2
   case measure => have := HK1.out; have := HK2.out; omega
   case rel => exact ⟨(t318), (wrap64 (x5_2 + 1)), (by first | rfl | (simp; done) | (simp [*]; done)), H', ⟨by have := HK1.out; have := HK2.out; omega⟩, ⟨by (with_reducible repeat (first | apply Kd.V_alloc | apply Kd.V_drewN | apply Kd.V_drew)); exact HO320.out⟩, ⟨bkl BK309⟩, ⟨bel1 HB GE309⟩⟩
/-! ### spec_BadlyPlaced: function 8 -/
def spec_BadlyPlaced.f (k : Nat) (l0_0 : List (List Int)) : Option (List Int × Bool) := (spec_l5Good.f k l0_0).bind fun t322 => (if t322 = true then ((spec_l8Bad.f k l0_0).bind fun t323 => (some (t323, true))) else (some ((([] : List Int)), false)))
theorem spec_BadlyPlaced.mono : ∀ a0 k, LeO (spec_BadlyPlaced.f k a0) (spec_BadlyPlaced.f (k + 1) a0) := by
 intro a0 k
 unfold spec_BadlyPlaced.f
 repeat' first
   | (with_reducible exact spec_l5Good.mono _ _)
   | (with_reducible exact spec_l8Bad.mono _ _)
   | (with_reducible exact LeO.refl _)
   | (with_reducible exact LeO.none _)
   | (with_reducible refine LeO.ite ?_ ?_)
   | (with_reducible refine LeO.bind ?_ (fun _ => ?_))
   | exact spec_l5Good.mono _ _
   | exact spec_l8Bad.mono _ _
   | exact LeO.none _
   | refine LeO.ite ?_ ?_
   | refine LeO.bind ?_ (fun _ => ?_)
set_option maxHeartbeats 8000000 in
set_option maxRecDepth 100000 in
theorem spec_BadlyPlaced.calls (k : Nat) (A0_0 : Option Addr) (c0_0 : Nat) (l0_0 : List (List Int)) (r1 : List Int) (r2 : Bool) (w : World) (hr0_0 : Kd.C (Kd.slice 3 (Kd.int .i64)) w A0_0 l0_0.length l0_0) (hc0_0 : l0_0.length ≤ c0_0) (h : spec_BadlyPlaced.f k l0_0 = some (r1, r2)) :
  Calls Try.prog 8 #[.agg #[.slice A0_0 l0_0.length c0_0]] w fun e w' => ∃ v0_ : Value, e = .returned (.tuple #[v0_, .bool r2]) ∧ Kd.V (Kd.int .i64) 3 w' w.heap.size (fun k_ => (w.heap.size ≤ k_)) v0_ r1 ∧ Below w.heap.size w w' := by
 have hu26 := Try.underlying26
 have HR0_0 := Aside0.mk hr0_0
 have HC0_0 := Aside0.mk hc0_0
 clear hr0_0 hc0_0
 have HB := Aside0.mk (Below.refl w.heap.size w)
 have H : ((spec_l5Good.f k l0_0).bind fun t322 => (if t322 = true then ((spec_l8Bad.f k l0_0).bind fun t323 => (some (t323, true))) else (some ((([] : List Int)), false)))) = some (r1, r2) := h
 clear h
 replace H := Option.bind_eq_some_iff.mp H
 obtain ⟨t322, A20, H⟩ := H
 replace H : (if t322 = true then ((spec_l8Bad.f k l0_0).bind fun t323 => (some (t323, true))) else (some ((([] : List Int)), false))) = some (r1, r2) := H
 have A2 := Aside0.mk A20
 clear A20
 by_cases c3 : t322 = true
 ·subst c3
  have H1 : ((spec_l8Bad.f k l0_0).bind fun t323 => (some (t323, true))) = some (r1, r2) := by rw [if_pos rfl] at H; exact H
  clear H
  have H := H1
  clear H1
  replace H := Option.bind_eq_some_iff.mp H
  obtain ⟨t323, A40, H⟩ := H
  replace H : (some (t323, true)) = some (r1, r2) := H
  have A4 := Aside0.mk A40
  clear A40
  simp only [Option.some.injEq, Prod.mk.injEq] at H
  obtain ⟨rfl, rfl⟩ := H
  go_enter Try.func8, Try.ntmps8
  go_wp2_with (first | ((with_reducible refine gate_dst (N := 1) rfl ?_); refine box_event ?hg (N := 1) ?hd (cs := #[.slice A0_0 l0_0.length c0_0]) (t := 26) ?hr ?_; (case hd => rfl); (case hg => rfl); (case hr => first | (go_simp; done) | (go_simp; rfl)); intro gb321 hg w5 hbox hb; have n0_ := Aside0.mk (below_step (bel HB) hb); have n1_ := Aside0.mk (hbox); have n2_ := Aside0.mk ((by rw [hg]; exact (below_size (bel HB)) : w.heap.size ≤ gb321)); have n3_ := Aside0.mk ((by rw [hg]; exact (below_size (bel HB)) : w.heap.size ≤ gb321)); clear HB; have HB := n0_; have BK321 := n1_; have GW321 := n2_; have GE321 := n3_; clear n0_ n1_ n2_ n3_; clear hb hbox hg; have hcz6_0 : w5.cell? ⟨gb321, 0, none⟩ = some (.slice A0_0 l0_0.length c0_0) := (blk_cell BK321.out 0).trans rfl; have hfz6_0 := blk_frozen BK321.out 0) | ((with_reducible refine gate_callee (f := 30) rfl ?_); refine goesL_ (some 5) rfl rfl Try.func30 (by kernel_rfl) rfl #[.agg #[.slice A0_0 l0_0.length c0_0]] rfl gmp ?_; (with_reducible refine (spec_l5Good.calls k _ _ l0_0 true _ ?side1 ?side2 A2.out).mono ?_); (case side1 => exact cdl (Kd.C_below HR0_0.out HB.out)); (case side2 => exact HC0_0.out); rintro e w7 ⟨rfl, hb⟩; refine ⟨_, rfl, ?_⟩; have n0_ := Aside0.mk (blk_below (g := gb321) (o := .cells #[.slice A0_0 l0_0.length c0_0] 26 (0, 0)) (bkl BK321) hb); have n1_ := Aside0.mk (below_step (bel1 HB GE321) hb); clear BK321; clear HB; have BK321 := n0_; have HB := n1_; clear n0_ n1_; (try clear hb); (try clear hb2); (try clear hk); (try clear hi); have hcz8_0 : w7.cell? ⟨gb321, 0, none⟩ = some (.slice A0_0 l0_0.length c0_0) := (blk_cell BK321.out 0).trans rfl; have hfz8_0 := blk_frozen BK321.out 0) | ((with_reducible refine gate_callee (f := 31) rfl ?_); refine goesL_ (some 9) rfl rfl Try.func31 (by kernel_rfl) rfl #[.agg #[.slice A0_0 l0_0.length c0_0]] rfl gmp ?_; (with_reducible refine (spec_l8Bad.calls k _ _ l0_0 t323 _ ?side1 ?side2 A4.out).mono ?_); (case side1 => exact cdl (Kd.C_below HR0_0.out HB.out)); (case side2 => exact HC0_0.out); rintro e w9 ⟨v324, rfl, ho0, hb⟩; refine ⟨_, rfl, ?_⟩; have n0_ := Aside0.mk (Kd.V_lower (Kd.V_mono (ok' := fun k_ => (w.heap.size ≤ k_) ∧ k_ ≠ gb321) ho0 (fun k_ hk_ => ⟨(Nat.le_trans (below_size (bel1 HB GE321)) hk_), (Kd.freshB (g := gb321) (o := .cells #[.slice A0_0 l0_0.length c0_0] 26 (0, 0)) (bkl BK321) k_ hk_)⟩)) (below_size (bel1 HB GE321))); have n1_ := Aside0.mk (blk_below (g := gb321) (o := .cells #[.slice A0_0 l0_0.length c0_0] 26 (0, 0)) (bkl BK321) hb); have n2_ := Aside0.mk (below_step (bel1 HB GE321) hb); clear BK321; clear HB; have HO325 := n0_; have BK321 := n1_; have HB := n2_; clear n0_ n1_ n2_; (try clear hb); (try clear hb2); (try clear hk); (try clear hi); (try clear ho0)))
  go_ret2
  exact ⟨_, by first | rfl | (simp [errW_none, errW_some] <;> rfl) | (simp [*, errW_none, errW_some] <;> rfl), by (with_reducible repeat (first | apply Kd.V_alloc | apply Kd.V_drewN | apply Kd.V_drew)); exact Kd.V_mono HO325.out (fun _ hk => hk.1), bel1 HB GE321⟩
 replace c3 := Bool.eq_false_iff.mpr c3
 subst c3
 have H1 : (some ((([] : List Int)), false)) = some (r1, r2) := by rw [if_neg (show ¬ (false = true) by decide)] at H; exact H
 clear H
 have H := H1
 clear H1
 obtain ⟨y326, hy326⟩ : ∃ y_ : List Int, y_ = (([] : List Int)) := ⟨_, rfl⟩
 replace H : (some (y326, false)) = some (r1, r2) := by first | (rw [hy326]; with_reducible exact H) | (have H2_ := (Option.bind_some _ _).symm.trans H; rw [hy326]; with_reducible exact H2_) | (have H2_ := (Option.bind_some _ _).symm.trans H; with_reducible exact H2_) | with_reducible exact H | (rw [hy326]; exact H) | exact H
 have Ny326 := Aside0.mk hy326
 clear hy326
 simp only [Option.some.injEq, Prod.mk.injEq] at H
 obtain ⟨rfl, rfl⟩ := H
 go_enter Try.func8, Try.ntmps8
 go_wp2_with (first | ((with_reducible refine gate_dst (N := 1) rfl ?_); refine box_event ?hg (N := 1) ?hd (cs := #[.slice A0_0 l0_0.length c0_0]) (t := 26) ?hr ?_; (case hd => rfl); (case hg => rfl); (case hr => first | (go_simp; done) | (go_simp; rfl)); intro gb321 hg w10 hbox hb; have n0_ := Aside0.mk (below_step (bel HB) hb); have n1_ := Aside0.mk (hbox); have n2_ := Aside0.mk ((by rw [hg]; exact (below_size (bel HB)) : w.heap.size ≤ gb321)); have n3_ := Aside0.mk ((by rw [hg]; exact (below_size (bel HB)) : w.heap.size ≤ gb321)); clear HB; have HB := n0_; have BK321 := n1_; have GW321 := n2_; have GE321 := n3_; clear n0_ n1_ n2_ n3_; clear hb hbox hg; have hcz11_0 : w10.cell? ⟨gb321, 0, none⟩ = some (.slice A0_0 l0_0.length c0_0) := (blk_cell BK321.out 0).trans rfl; have hfz11_0 := blk_frozen BK321.out 0) | ((with_reducible refine gate_callee (f := 30) rfl ?_); refine goesL_ (some 5) rfl rfl Try.func30 (by kernel_rfl) rfl #[.agg #[.slice A0_0 l0_0.length c0_0]] rfl gmp ?_; (with_reducible refine (spec_l5Good.calls k _ _ l0_0 false _ ?side1 ?side2 A2.out).mono ?_); (case side1 => exact cdl (Kd.C_below HR0_0.out HB.out)); (case side2 => exact HC0_0.out); rintro e w12 ⟨rfl, hb⟩; refine ⟨_, rfl, ?_⟩; have n0_ := Aside0.mk (blk_below (g := gb321) (o := .cells #[.slice A0_0 l0_0.length c0_0] 26 (0, 0)) (bkl BK321) hb); have n1_ := Aside0.mk (below_step (bel1 HB GE321) hb); clear BK321; clear HB; have BK321 := n0_; have HB := n1_; clear n0_ n1_; (try clear hb); (try clear hb2); (try clear hk); (try clear hi)) | ((with_reducible refine gate_dst (N := 7) rfl ?_); refine Kd.R_lit (Kd.int .i64) _ 3 ?hg (N := 7) ?hd (xs := ([] : List Int)) (inner := []) (ok := fun _ => True) (okp := fun _ => True) ?hr ?hp (fun _ hk => hk) trivial (Below.refl _ _) (Nat.le_refl _) (by simp) ?_; (case hd => rfl); (case hg => rfl); (case hr => first | (go_simp; done) | (go_simp; rfl)); (case hp => exact (Reps.none _ _)); intro v327 w13 ho14 hb hg_ hnew_; clear hg_ hnew_; (first | rw [← Ny326.out] at ho14 | (simp only [Int.reduceToNat] at ho14; rw [← Ny326.out] at ho14)); have n0_ := Aside0.mk (Kd.R_lower (Kd.R_newM (M := fun k_ => (w.heap.size ≤ k_)) ho14 (below_size (bel1 HB GE321)) (fun k_ h_ => h_)) (below_size (bel1 HB GE321))); have n1_ := Aside0.mk (blk_below (g := gb321) (o := .cells #[.slice A0_0 l0_0.length c0_0] 26 (0, 0)) (bkl BK321) hb); have n2_ := Aside0.mk (below_step (bel1 HB GE321) hb); clear BK321; clear HB; have HO328 := n0_; have BK321 := n1_; have HB := n2_; clear n0_ n1_ n2_; clear hb ho14))
 go_ret2
 exact ⟨_, by first | rfl | (simp [errW_none, errW_some] <;> rfl) | (simp [*, errW_none, errW_some] <;> rfl), Kd.R_V (by (with_reducible repeat (first | apply Kd.R_alloc | apply Kd.R_drewN | apply Kd.R_drew)); exact Kd.R_mono HO328.out (fun _ hk => hk.1)), bel1 HB GE321⟩
/-! ### laws_vInts: function 9 -/
def laws_vInts.l0 : Nat → List Int → List Int → Int → Option (Bool)
 | 0, _, _, _ => none
 | k + 1, x0, x1, x5 => if x5 < (x0.length : Int) then (if 0 ≤ x5 then (if x5 < (x1.length : Int) then (if (rd x0 x5) = (rd x1 x5) then (laws_vInts.l0 k x0 x1 (wrap64 (x5 + 1))) else (some false)) else (none)) else (none)) else (some true)
def laws_vInts.f (k : Nat) (l0 : List Int) (l1 : List Int) : Option (Bool) := if (l0.length : Int) = (l1.length : Int) then (laws_vInts.l0 k l0 l1 0) else (some false)
theorem laws_vInts.mono_l : ∀ k, (∀ y0 y1 y2, LeO (laws_vInts.l0 k y0 y1 y2) (laws_vInts.l0 (k + 1) y0 y1 y2))
 | 0 => fun _ _ _ r h => by simp [laws_vInts.l0] at h
 | k + 1 => by
  have ih0 := laws_vInts.mono_l k
  ·intro y0 y1 y2
   unfold laws_vInts.l0
   repeat' first
   | (with_reducible exact ih0 _ _ _)
   | (with_reducible exact LeO.refl _)
   | (with_reducible exact LeO.none _)
   | (with_reducible refine LeO.ite ?_ ?_)
   | (with_reducible refine LeO.bind ?_ (fun _ => ?_))
   | exact ih0 _ _ _
   | exact LeO.none _
   | refine LeO.ite ?_ ?_
   | refine LeO.bind ?_ (fun _ => ?_)
theorem laws_vInts.mono : ∀ a0 a1 k, LeO (laws_vInts.f k a0 a1) (laws_vInts.f (k + 1) a0 a1) := by
 intro a0 a1 k
 have ih0 := laws_vInts.mono_l k
 unfold laws_vInts.f
 repeat' first
   | (with_reducible exact ih0 _ _ _)
   | (with_reducible exact LeO.refl _)
   | (with_reducible exact LeO.none _)
   | (with_reducible refine LeO.ite ?_ ?_)
   | (with_reducible refine LeO.bind ?_ (fun _ => ?_))
   | exact ih0 _ _ _
   | exact LeO.none _
   | refine LeO.ite ?_ ?_
   | refine LeO.bind ?_ (fun _ => ?_)
set_option maxHeartbeats 8000000 in
set_option maxRecDepth 100000 in
theorem laws_vInts.calls (k : Nat) (A0 : Option Addr) (c0 : Nat) (l0 : List Int) (A1 : Option Addr) (c1 : Nat) (l1 : List Int) (r : Bool) (w : World) (hr0 : Kd.C (Kd.int .i64) w A0 l0.length l0) (hc0 : l0.length ≤ c0) (hr1 : Kd.C (Kd.int .i64) w A1 l1.length l1) (hc1 : l1.length ≤ c1) (h : laws_vInts.f k l0 l1 = some r) :
  Calls Try.prog 9 #[.slice A0 l0.length c0, .slice A1 l1.length c1] w fun e w' => e = .returned (.bool r) ∧ Drawn0 w w' := by
 have HR0 := Aside0.mk hr0
 have HC0 := Aside0.mk hc0
 clear hr0 hc0
 have HR1 := Aside0.mk hr1
 have HC1 := Aside0.mk hc1
 clear hr1 hc1
 have H : (if (l0.length : Int) = (l1.length : Int) then (laws_vInts.l0 k l0 l1 0) else (some false)) = some r := h
 clear h
 by_cases c3 : (l0.length : Int) = (l1.length : Int)
 rotate_left
 ·rw [if_neg c3] at H
  have c3b0 : ((l0.length : Int) == (l1.length : Int)) = false := beq_eq_false_iff_ne.mpr c3
  have c3b1 : ((l0.length : Int) != (l1.length : Int)) = true := bne_iff_ne.mpr c3
  have c3b2 : (l0.length == l1.length) = false := by first | simpa using c3 | (simp at c3 ⊢; omega)
  obtain rfl := Option.some.inj H
  go_enter Try.func9, Try.ntmps9
  go_wp2
  repeat (go_quiet (fail); try go_wp2)
  go_ret
  exact ⟨by first | rfl | (simp; done) | (simp [*]; done), by repeat (first | exact Drawn0.refl _ | apply Drawn0.step)⟩
 rw [if_pos c3] at H
 have c3b0 : ((l0.length : Int) == (l1.length : Int)) = true := beq_iff_eq.mpr c3
 have c3b1 : ((l0.length : Int) != (l1.length : Int)) = false := bne_eq_false_iff_eq.mpr c3
 have c3b2 : (l0.length == l1.length) = true := by first | simpa using c3 | (simp at c3 ⊢; omega)
 clear c3
 have H' := Aside0.mk H
 clear H
 go_enter Try.func9, Try.ntmps9
 go_wp2
 repeat (go_quiet (fail); try go_wp2)
 go_loopg [5] k (fun kq v5 w' => ∃ (x5_1 : Int), v5 = .int .i64 x5_1 ∧ Aside0 (laws_vInts.l0 kq l0 l1 x5_1 = some r) ∧ Aside0 (kq ≤ k) ∧ Drawn0 w w')
 case atStart => exact ⟨(0), (by first | rfl | (simp; done) | (simp [*]; done)), H', ⟨Nat.le_refl _⟩, by repeat (first | exact Drawn0.refl _ | apply Drawn0.step)⟩
 clear H'
 try clear c1
 try clear p2
 try clear c3
 try clear c3b0
 try clear c3b1
 try clear c3b2
 obtain ⟨x5_1, rfl, HA, HK1, ⟨m1, rfl⟩⟩ := hrel
 cases gk with
 | zero => exact absurd HA.out (by simp [laws_vInts.l0])
 | succ k1 =>
  have H := HA.out
  clear HA
  simp only [laws_vInts.l0] at H
  by_cases c4 : x5_1 < (l0.length : Int)
  rotate_left
  ·rw [if_neg c4] at H
   have c4b0 : decide (x5_1 < (l0.length : Int)) = false := decide_eq_false c4
   clear c4
   obtain rfl := Option.some.inj H
   go_wp2
   repeat (go_quiet (fail); try go_wp2)
   go_ret
   exact ⟨by first | rfl | (simp; done) | (simp [*]; done), by repeat (first | exact Drawn0.refl _ | apply Drawn0.step)⟩
  rw [if_pos c4] at H
  have c4b0 : decide (x5_1 < (l0.length : Int)) = true := decide_eq_true c4
  clear c4
  by_cases c5 : 0 ≤ x5_1
  rotate_left
  ·rw [if_neg c5] at H
   exact absurd H (by simp)
  rw [if_pos c5] at H
  have c5b0 : decide (0 ≤ x5_1) = true := decide_eq_true c5
  clear c5
  by_cases c6 : x5_1 < (l1.length : Int)
  rotate_left
  ·rw [if_neg c6] at H
   exact absurd H (by simp)
  rw [if_pos c6] at H
  have c6b0 : decide (x5_1 < (l1.length : Int)) = true := decide_eq_true c6
  clear c6
  by_cases c7 : (rd l0 x5_1) = (rd l1 x5_1)
  rotate_left
  ·rw [if_neg c7] at H
   have c7b0 : ((rd l0 x5_1) == (rd l1 x5_1)) = false := beq_eq_false_iff_ne.mpr c7
   have c7b1 : ((rd l0 x5_1) != (rd l1 x5_1)) = true := bne_iff_ne.mpr c7
   obtain rfl := Option.some.inj H
   have p329 : 0 ≤ (x5_1 : Int) := oda
   have q329 : x5_1 < (l0.length : Int) := oda
   obtain ⟨ad329, e329, hx329_0⟩ := Kd.at_int HR0.out x5_1 p329 q329
   cases e329
   replace p329 := eq_true p329
   replace q329 := eq_true q329
   have p330 : 0 ≤ (x5_1 : Int) := oda
   have q330 : x5_1 < (l1.length : Int) := oda
   obtain ⟨ad330, e330, hx330_0⟩ := Kd.at_int HR1.out x5_1 p330 q330
   cases e330
   replace p330 := eq_true p330
   replace q330 := eq_true q330
   go_wp2
   repeat (go_quiet (fail); try go_wp2)
   go_ret
   exact ⟨by first | rfl | (simp; done) | (simp [*]; done), by repeat (first | exact Drawn0.refl _ | apply Drawn0.step)⟩
  rw [if_pos c7] at H
  have c7b0 : ((rd l0 x5_1) == (rd l1 x5_1)) = true := beq_iff_eq.mpr c7
  have c7b1 : ((rd l0 x5_1) != (rd l1 x5_1)) = false := bne_eq_false_iff_eq.mpr c7
  clear c7
  have H' := Aside0.mk H
  clear H
  have p329 : 0 ≤ (x5_1 : Int) := oda
  have q329 : x5_1 < (l0.length : Int) := oda
  obtain ⟨ad329, e329, hx329_0⟩ := Kd.at_int HR0.out x5_1 p329 q329
  cases e329
  replace p329 := eq_true p329
  replace q329 := eq_true q329
  have p330 : 0 ≤ (x5_1 : Int) := oda
  have q330 : x5_1 < (l1.length : Int) := oda
  obtain ⟨ad330, e330, hx330_0⟩ := Kd.at_int HR1.out x5_1 p330 q330
  cases e330
  replace p330 := eq_true p330
  replace q330 := eq_true q330
  go_wp2
  repeat (go_quiet (fail); try go_wp2)
  go_roundg k1
  case measure => have := HK1.out; omega
  case rel => exact ⟨(wrap64 (x5_1 + 1)), (by first | rfl | (simp; done) | (simp [*]; done)), H', ⟨by have := HK1.out; omega⟩, by repeat (first | exact Drawn0.refl _ | apply Drawn0.step)⟩
/-! ### impl_SortedStacks: function 10 -/
def impl_SortedStacks.l0 : Nat → List Int → List (List Int) → Int → Int → Option (List Int × Bool)
 | 0, _, _, _, _ => none
 | k + 1, x4, x12, x13, x14 => if x14 < x13 then (if 0 ≤ x14 then (if x14 < (x12.length : Int) then ((impl_badlyPlaced.f k (rd_L2 x12 x14)).bind fun t337 => (if (t337.length : Int) = 0 then (if x4.length < 17592186044416 then (impl_SortedStacks.l0 k (x4 ++ [x14]) x12 x13 (wrap64 (x14 + 1))) else (none)) else (impl_SortedStacks.l0 k x4 x12 x13 (wrap64 (x14 + 1))))) else (none)) else (none)) else (some (x4, true))
def impl_SortedStacks.f (k : Nat) (l0_0 : List (List Int)) : Option (List Int × Bool) := (impl_IsValidYard.f l0_0).bind fun t332 => (if t332 = true then (impl_SortedStacks.l0 k (([] : List Int)) l0_0 (l0_0.length : Int) 0) else (some (([] : List Int), false)))
theorem impl_SortedStacks.mono_l : ∀ k, (∀ y0 y1 y2 y3, LeO (impl_SortedStacks.l0 k y0 y1 y2 y3) (impl_SortedStacks.l0 (k + 1) y0 y1 y2 y3))
 | 0 => fun _ _ _ _ r h => by simp [impl_SortedStacks.l0] at h
 | k + 1 => by
  have ih0 := impl_SortedStacks.mono_l k
  ·intro y0 y1 y2 y3
   unfold impl_SortedStacks.l0
   repeat' first
   | (with_reducible exact ih0 _ _ _ _)
   | (with_reducible exact impl_badlyPlaced.mono _ _)
   | (with_reducible exact LeO.refl _)
   | (with_reducible exact LeO.none _)
   | (with_reducible refine LeO.ite ?_ ?_)
   | (with_reducible refine LeO.bind ?_ (fun _ => ?_))
   | exact ih0 _ _ _ _
   | exact impl_badlyPlaced.mono _ _
   | exact LeO.none _
   | refine LeO.ite ?_ ?_
   | refine LeO.bind ?_ (fun _ => ?_)
theorem impl_SortedStacks.mono : ∀ a0 k, LeO (impl_SortedStacks.f k a0) (impl_SortedStacks.f (k + 1) a0) := by
 intro a0 k
 have ih0 := impl_SortedStacks.mono_l k
 unfold impl_SortedStacks.f
 repeat' first
   | (with_reducible exact ih0 _ _ _ _)
   | (with_reducible exact impl_badlyPlaced.mono _ _)
   | (with_reducible exact LeO.refl _)
   | (with_reducible exact LeO.none _)
   | (with_reducible refine LeO.ite ?_ ?_)
   | (with_reducible refine LeO.bind ?_ (fun _ => ?_))
   | exact ih0 _ _ _ _
   | exact impl_badlyPlaced.mono _ _
   | exact LeO.none _
   | refine LeO.ite ?_ ?_
   | refine LeO.bind ?_ (fun _ => ?_)
set_option maxHeartbeats 8000000 in
set_option maxRecDepth 100000 in
theorem impl_SortedStacks.calls (k : Nat) (A0_0 : Option Addr) (c0_0 : Nat) (l0_0 : List (List Int)) (r1 : List Int) (r2 : Bool) (w : World) (hr0_0 : Kd.C (Kd.slice 3 (Kd.int .i64)) w A0_0 l0_0.length l0_0) (hc0_0 : l0_0.length ≤ c0_0) (h : impl_SortedStacks.f k l0_0 = some (r1, r2)) :
  Calls Try.prog 10 #[.agg #[.slice A0_0 l0_0.length c0_0]] w fun e w' => ∃ v0_ : Value, e = .returned (.tuple #[v0_, .bool r2]) ∧ Kd.R (Kd.int .i64) 3 w' w.heap.size (fun _ => True) v0_ r1 ∧ Below w.heap.size w w' := by
 have hu26 := Try.underlying26
 have HR0_0 := Aside0.mk hr0_0
 have HC0_0 := Aside0.mk hc0_0
 clear hr0_0 hc0_0
 have HB := Aside0.mk (Below.refl w.heap.size w)
 have H : ((impl_IsValidYard.f l0_0).bind fun t332 => (if t332 = true then (impl_SortedStacks.l0 k (([] : List Int)) l0_0 (l0_0.length : Int) 0) else (some (([] : List Int), false)))) = some (r1, r2) := h
 clear h
 replace H := Option.bind_eq_some_iff.mp H
 obtain ⟨t332, A20, H⟩ := H
 replace H : (if t332 = true then (impl_SortedStacks.l0 k (([] : List Int)) l0_0 (l0_0.length : Int) 0) else (some (([] : List Int), false))) = some (r1, r2) := H
 have A2 := Aside0.mk A20
 clear A20
 by_cases c3 : t332 = true
 rotate_left
 ·replace c3 := Bool.eq_false_iff.mpr c3
  subst c3
  have H1 : (some (([] : List Int), false)) = some (r1, r2) := by rw [if_neg (show ¬ (false = true) by decide)] at H; exact H
  clear H
  have H := H1
  clear H1
  simp only [Option.some.injEq, Prod.mk.injEq] at H
  obtain ⟨rfl, rfl⟩ := H
  go_enter Try.func10, Try.ntmps10
  go_wp2_with (first | ((with_reducible refine gate_dst (N := 1) rfl ?_); refine box_event ?hg (N := 1) ?hd (cs := #[.slice A0_0 l0_0.length c0_0]) (t := 26) ?hr ?_; (case hd => rfl); (case hg => rfl); (case hr => first | (go_simp; done) | (go_simp; rfl)); intro gb331 hg w21 hbox hb; have n0_ := Aside0.mk (below_step (bel HB) hb); have n1_ := Aside0.mk (hbox); have n2_ := Aside0.mk ((by rw [hg]; exact (below_size (bel HB)) : w.heap.size ≤ gb331)); have n3_ := Aside0.mk ((by rw [hg]; exact (below_size (bel HB)) : w.heap.size ≤ gb331)); clear HB; have HB := n0_; have BK331 := n1_; have GW331 := n2_; have GE331 := n3_; clear n0_ n1_ n2_ n3_; clear hb hbox hg; have hcz22_0 : w21.cell? ⟨gb331, 0, none⟩ = some (.slice A0_0 l0_0.length c0_0) := (blk_cell BK331.out 0).trans rfl; have hfz22_0 := blk_frozen BK331.out 0) | ((with_reducible refine gate_callee (f := 28) rfl ?_); refine goesL_ (some 8) rfl rfl Try.func28 (by kernel_rfl) rfl #[.agg #[.slice A0_0 l0_0.length c0_0]] rfl gmp ?_; (with_reducible refine (impl_IsValidYard.calls _ _ l0_0 false _ ?side1 ?side2 A2.out).mono ?_); (case side1 => exact cdl (Kd.C_below HR0_0.out HB.out)); (case side2 => exact HC0_0.out); rintro e w23 ⟨rfl, hb⟩; refine ⟨_, rfl, ?_⟩; have n0_ := Aside0.mk (blk_below (g := gb331) (o := .cells #[.slice A0_0 l0_0.length c0_0] 26 (0, 0)) (bkl BK331) hb); have n1_ := Aside0.mk (below_step (bel1 HB GE331) hb); clear BK331; clear HB; have BK331 := n0_; have HB := n1_; clear n0_ n1_; (try clear hb); (try clear hb2); (try clear hk); (try clear hi)))
  go_ret2
  exact ⟨_, by first | rfl | (simp [errW_none, errW_some] <;> rfl) | (simp [*, errW_none, errW_some] <;> rfl), by first | exact Kd.R_nil _ _ _ _ _ | exact Kd.N_nil _ _ _ _ _ | exact Kd.V_nil _ _ _ _ _ | exact Kd.Q_nil _ _ _ _ _ | exact Kd.S_nil _ _ _ _ _, bel1 HB GE331⟩
 subst c3
 have H1 : (impl_SortedStacks.l0 k (([] : List Int)) l0_0 (l0_0.length : Int) 0) = some (r1, r2) := by rw [if_pos rfl] at H; exact H
 clear H
 have H := H1
 clear H1
 obtain ⟨y333, hy333⟩ : ∃ y_ : List Int, y_ = (([] : List Int)) := ⟨_, rfl⟩
 replace H : (impl_SortedStacks.l0 k y333 l0_0 (l0_0.length : Int) 0) = some (r1, r2) := by first | (rw [hy333]; with_reducible exact H) | (have H2_ := (Option.bind_some _ _).symm.trans H; rw [hy333]; with_reducible exact H2_) | (have H2_ := (Option.bind_some _ _).symm.trans H; with_reducible exact H2_) | with_reducible exact H | (rw [hy333]; exact H) | exact H
 have Ny333 := Aside0.mk hy333
 clear hy333
 have H' := Aside0.mk H
 clear H
 go_enter Try.func10, Try.ntmps10
 go_wp2_with (first | ((with_reducible refine gate_dst (N := 1) rfl ?_); refine box_event ?hg (N := 1) ?hd (cs := #[.slice A0_0 l0_0.length c0_0]) (t := 26) ?hr ?_; (case hd => rfl); (case hg => rfl); (case hr => first | (go_simp; done) | (go_simp; rfl)); intro gb331 hg w4 hbox hb; have n0_ := Aside0.mk (below_step (bel HB) hb); have n1_ := Aside0.mk (hbox); have n2_ := Aside0.mk ((by rw [hg]; exact (below_size (bel HB)) : w.heap.size ≤ gb331)); have n3_ := Aside0.mk ((by rw [hg]; exact (below_size (bel HB)) : w.heap.size ≤ gb331)); clear HB; have HB := n0_; have BK331 := n1_; have GW331 := n2_; have GE331 := n3_; clear n0_ n1_ n2_ n3_; clear hb hbox hg; have hcz5_0 : w4.cell? ⟨gb331, 0, none⟩ = some (.slice A0_0 l0_0.length c0_0) := (blk_cell BK331.out 0).trans rfl; have hfz5_0 := blk_frozen BK331.out 0) | ((with_reducible refine gate_callee (f := 28) rfl ?_); refine goesL_ (some 8) rfl rfl Try.func28 (by kernel_rfl) rfl #[.agg #[.slice A0_0 l0_0.length c0_0]] rfl gmp ?_; (with_reducible refine (impl_IsValidYard.calls _ _ l0_0 true _ ?side1 ?side2 A2.out).mono ?_); (case side1 => exact cdl (Kd.C_below HR0_0.out HB.out)); (case side2 => exact HC0_0.out); rintro e w6 ⟨rfl, hb⟩; refine ⟨_, rfl, ?_⟩; have n0_ := Aside0.mk (blk_below (g := gb331) (o := .cells #[.slice A0_0 l0_0.length c0_0] 26 (0, 0)) (bkl BK331) hb); have n1_ := Aside0.mk (below_step (bel1 HB GE331) hb); clear BK331; clear HB; have BK331 := n0_; have HB := n1_; clear n0_ n1_; (try clear hb); (try clear hb2); (try clear hk); (try clear hi)) | ((with_reducible refine gate_dst (N := 10) rfl ?_); refine Kd.R_lit (Kd.int .i64) _ 3 ?hg (N := 10) ?hd (xs := ([] : List Int)) (inner := []) (ok := fun _ => True) (okp := fun _ => True) ?hr ?hp (fun _ hk => hk) trivial (Below.refl _ _) (Nat.le_refl _) (by simp) ?_; (case hd => rfl); (case hg => rfl); (case hr => first | (go_simp; done) | (go_simp; rfl)); (case hp => exact (Reps.none _ _)); intro v334 w7 ho8 hb hg_ hnew_; clear hg_ hnew_; (first | rw [← Ny333.out] at ho8 | (simp only [Int.reduceToNat] at ho8; rw [← Ny333.out] at ho8)); have n0_ := Aside0.mk (Kd.R_lower ho8 (below_size (bel1 HB GE331))); have n1_ := Aside0.mk (blk_below (g := gb331) (o := .cells #[.slice A0_0 l0_0.length c0_0] 26 (0, 0)) (bkl BK331) hb); have n2_ := Aside0.mk (below_step (bel1 HB GE331) hb); clear BK331; clear HB; have HO335 := n0_; have BK331 := n1_; have HB := n2_; clear n0_ n1_ n2_; clear hb ho8; have hcz9_0 : w7.cell? ⟨gb331, 0, none⟩ = some (.slice A0_0 l0_0.length c0_0) := (blk_cell BK331.out 0).trans rfl; have hfz9_0 := blk_frozen BK331.out 0))
 go_loopg [4, 14] k (fun kq v4 v14 w' => ∃ (x4_1 : List Int) (x14_1 : Int), v14 = .int .i64 x14_1 ∧ Aside0 (impl_SortedStacks.l0 kq x4_1 l0_0 (l0_0.length : Int) x14_1 = some (r1, r2)) ∧ Aside0 (kq ≤ k) ∧ Aside0 (Kd.R (Kd.int .i64) 3 w' w.heap.size (fun _ => True) v4 x4_1) ∧ Aside0 (w'.heap[gb331]? = some (.cells #[(.slice A0_0 l0_0.length c0_0)] 26 (0, 0))) ∧ Aside0 (Below w.heap.size w w'))
 case atStart => exact ⟨(y333), (0), (by first | rfl | (simp; done) | (simp [*]; done)), H', ⟨Nat.le_refl _⟩, ⟨rdl HO335⟩, ⟨bkl BK331⟩, ⟨bel1 HB GE331⟩⟩
 clear H'
 try clear c1
 try clear c2
 try clear p2
 try clear c3
 try clear hcz5_0
 try clear hcz9_0
 try clear hfz5_0
 try clear hfz9_0
 obtain ⟨x4_1, x14_1, rfl, HA, HK1, HO_4, BK331, HB⟩ := hrel
 cases gk with
 | zero => exact absurd HA.out (by simp [impl_SortedStacks.l0])
 | succ k1 =>
  have H := HA.out
  clear HA
  simp only [impl_SortedStacks.l0] at H
  by_cases c10 : x14_1 < (l0_0.length : Int)
  rotate_left
  ·rw [if_neg c10] at H
   have c10b0 : decide (x14_1 < (l0_0.length : Int)) = false := decide_eq_false c10
   clear c10
   simp only [Option.some.injEq, Prod.mk.injEq] at H
   obtain ⟨rfl, rfl⟩ := H
   go_wp2
   go_ret2
   exact ⟨_, by first | rfl | (simp [errW_none, errW_some] <;> rfl) | (simp [*, errW_none, errW_some] <;> rfl), rdl HO_4, bel1 HB GE331⟩
  rw [if_pos c10] at H
  have c10b0 : decide (x14_1 < (l0_0.length : Int)) = true := decide_eq_true c10
  clear c10
  by_cases c11 : 0 ≤ x14_1
  rotate_left
  ·rw [if_neg c11] at H
   exact absurd H (by simp)
  rw [if_pos c11] at H
  have c11b0 : decide (0 ≤ x14_1) = true := decide_eq_true c11
  clear c11
  by_cases c12 : x14_1 < (l0_0.length : Int)
  rotate_left
  ·rw [if_neg c12] at H
   exact absurd H (by simp)
  rw [if_pos c12] at H
  have c12b0 : decide (x14_1 < (l0_0.length : Int)) = true := decide_eq_true c12
  clear c12
  replace H := Option.bind_eq_some_iff.mp H
  obtain ⟨t337, A130, H⟩ := H
  replace H : (if (t337.length : Int) = 0 then (if x4_1.length < 17592186044416 then (impl_SortedStacks.l0 k1 (x4_1 ++ [x14_1]) l0_0 (l0_0.length : Int) (wrap64 (x14_1 + 1))) else (none)) else (impl_SortedStacks.l0 k1 x4_1 l0_0 (l0_0.length : Int) (wrap64 (x14_1 + 1)))) = some (r1, r2) := H
  have A13 := Aside0.mk A130
  clear A130
  by_cases c14 : (t337.length : Int) = 0
  rotate_left
  ·rw [if_neg c14] at H
   have c14b0 : ((t337.length : Int) == 0) = false := beq_eq_false_iff_ne.mpr c14
   have c14b1 : ((t337.length : Int) != 0) = true := bne_iff_ne.mpr c14
   have c14b2 : ¬ (t337 = []) := fun h_ => c14 (by rw [h_]; rfl)
   have H' := Aside0.mk H
   clear H
   have p336 : 0 ≤ (x14_1 : Int) := oda
   have q336 : x14_1 < (l0_0.length : Int) := oda
   obtain ⟨ad336, A336_0, c336_0, e336, hx336_0, hl336_0, hi336_0⟩ := at_L2 HR0_0.out x14_1 p336 q336
   cases e336
   replace hx336_0 := cel HB hx336_0
   have HR336_0 := Aside0.mk hi336_0
   have HC336_0 := Aside0.mk hl336_0
   clear hi336_0 hl336_0
   replace p336 := eq_true p336
   replace q336 := eq_true q336
   go_wp2_with (first | ((with_reducible refine gate_callee (f := 32) rfl ?_); refine goesL_ (some 20) rfl rfl Try.func32 (by kernel_rfl) rfl #[.slice A336_0 (rd_L2 l0_0 x14_1).length c336_0] rfl gmp ?_; (with_reducible refine (impl_badlyPlaced.calls k1 _ _ (rd_L2 l0_0 x14_1) t337 _ ?side1 ?side2 A13.out).mono ?_); (case side1 => exact cdl (Kd.C_below HR336_0.out HB.out)); (case side2 => exact HC336_0.out); rintro e w19 ⟨v338, rfl, ho0, hb⟩; refine ⟨_, rfl, ?_⟩; have n0_ := Aside0.mk (Kd.R_elder' (rdl HO_4) (Kd.R_base ho0) hb); have n1_ := Aside0.mk (Kd.R_lower (Kd.R_new' ho0 (Kd.R_lt (rdl HO_4))) (below_size (bel1 HB GE331))); have n2_ := Aside0.mk (blk_below (g := gb331) (o := .cells #[.slice (some ad336) l0_0.length c0_0] 26 (0, 0)) (bkl BK331) hb); have n3_ := Aside0.mk (below_step (bel1 HB GE331) hb); clear HO_4; clear BK331; clear HB; have HO_4 := n0_; have HO339 := n1_; have BK331 := n2_; have HB := n3_; clear n0_ n1_ n2_ n3_; (try clear hb); (try clear hb2); (try clear hk); (try clear hi); (try clear ho0); obtain ⟨Ao20, co20, eo20⟩ := Kd.R_slice HO339.out; subst eo20))
   go_roundg k1
   case measure => have := HK1.out; omega
   case rel => exact ⟨(x4_1), (wrap64 (x14_1 + 1)), (by first | rfl | (simp; done) | (simp [*]; done)), H', ⟨by have := HK1.out; omega⟩, ⟨by (with_reducible repeat (first | apply Kd.R_alloc | apply Kd.R_drewN | apply Kd.R_drew)); exact Kd.R_mono HO_4.out (fun _ hk => trivial)⟩, ⟨bkl BK331⟩, ⟨bel1 HB GE331⟩⟩
  rw [if_pos c14] at H
  have c14b0 : ((t337.length : Int) == 0) = true := beq_iff_eq.mpr c14
  have c14b1 : ((t337.length : Int) != 0) = false := bne_eq_false_iff_eq.mpr c14
  clear c14
  by_cases c15 : x4_1.length < 17592186044416
  rotate_left
  ·rw [if_neg c15] at H
   exact absurd H (by simp)
  rw [if_pos c15] at H
  have LMc15 := Aside0.mk c15
  clear c15
  obtain ⟨y340, hy340⟩ : ∃ y_ : List Int, y_ = (x4_1 ++ [x14_1]) := ⟨_, rfl⟩
  replace H : (impl_SortedStacks.l0 k1 y340 l0_0 (l0_0.length : Int) (wrap64 (x14_1 + 1))) = some (r1, r2) := by first | (rw [hy340]; with_reducible exact H) | (have H2_ := (Option.bind_some _ _).symm.trans H; rw [hy340]; with_reducible exact H2_) | (have H2_ := (Option.bind_some _ _).symm.trans H; with_reducible exact H2_) | with_reducible exact H | (rw [hy340]; exact H) | exact H
  have Ny340 := Aside0.mk hy340
  clear hy340
  have H' := Aside0.mk H
  clear H
  have p336 : 0 ≤ (x14_1 : Int) := oda
  have q336 : x14_1 < (l0_0.length : Int) := oda
  obtain ⟨ad336, A336_0, c336_0, e336, hx336_0, hl336_0, hi336_0⟩ := at_L2 HR0_0.out x14_1 p336 q336
  cases e336
  replace hx336_0 := cel HB hx336_0
  have HR336_0 := Aside0.mk hi336_0
  have HC336_0 := Aside0.mk hl336_0
  clear hi336_0 hl336_0
  replace p336 := eq_true p336
  replace q336 := eq_true q336
  go_wp2_with (first | ((with_reducible refine gate_callee (f := 32) rfl ?_); refine goesL_ (some 20) rfl rfl Try.func32 (by kernel_rfl) rfl #[.slice A336_0 (rd_L2 l0_0 x14_1).length c336_0] rfl gmp ?_; (with_reducible refine (impl_badlyPlaced.calls k1 _ _ (rd_L2 l0_0 x14_1) t337 _ ?side1 ?side2 A13.out).mono ?_); (case side1 => exact cdl (Kd.C_below HR336_0.out HB.out)); (case side2 => exact HC336_0.out); rintro e w16 ⟨v338, rfl, ho0, hb⟩; refine ⟨_, rfl, ?_⟩; have n0_ := Aside0.mk (Kd.R_elder' (rdl HO_4) (Kd.R_base ho0) hb); have n1_ := Aside0.mk (Kd.R_lower (Kd.R_new' ho0 (Kd.R_lt (rdl HO_4))) (below_size (bel1 HB GE331))); have n2_ := Aside0.mk (blk_below (g := gb331) (o := .cells #[.slice (some ad336) l0_0.length c0_0] 26 (0, 0)) (bkl BK331) hb); have n3_ := Aside0.mk (below_step (bel1 HB GE331) hb); clear HO_4; clear BK331; clear HB; have HO_4 := n0_; have HO339 := n1_; have BK331 := n2_; have HB := n3_; clear n0_ n1_ n2_ n3_; (try clear hb); (try clear hb2); (try clear hk); (try clear hi); (try clear ho0); obtain ⟨Ao17, co17, eo17⟩ := Kd.R_slice HO339.out; subst eo17) | ((with_reducible refine gate_builtin (b := .append) (xs := #[.tmp 23, .tmp 25]) rfl ?_); at_builtin; refine Kd.R_append (Kd.int .i64) (w0 := w) w.heap.size rfl (.tmp 23) (.tmp 25) 28 3 (.int .i64 0) 8 rfl Try.underlying28 info3 rfl (by decide) (by omega) u4 x4_1 x14_1 [.int .i64 x14_1] (fun k_ => some k_ ≠ (.slice Ao17 t337.length co17 : Value).ownBlock) (fun _ => False) rfl rfl ?aP (fun _ hk => hk.elim) ?aF ?aO ?aB ?aS ?aL ?_; (case aP => exact rfl); (case aB => exact (bel1 HB GE331)); (case aF => exact (fun k_ hk => Kd.fresh' (Kd.R_lt (rdl HO339)) k_ hk)); (case aO => exact (by (with_reducible repeat (first | apply Kd.R_alloc | apply Kd.R_drewN | apply Kd.R_drew)); exact Kd.R_mono HO_4.out (fun _ hk => hk.2))); (case aS => exact (below_size (bel1 HB GE331))); (case aL => have := LMc15.out; omega); intro v341 w18 ho hb hg hat; rw [← Ny340.out] at ho; have n0_ := Aside0.mk (blk_grown (g := gb331) (o := .cells #[.slice (some ad336) l0_0.length c0_0] 26 (0, 0)) (bkl BK331) hg (Kd.R_ne HO_4.out BK331.out (by decide))); have n1_ := Aside0.mk (Kd.R_after (ok := (fun _ => True)) (rdl HO339) hg hat); have n2_ := Aside0.mk (hb); have n3_ := Aside0.mk (ho); clear BK331; clear HO339; clear HB; clear HO_4; have BK331 := n0_; have HO339 := n1_; have HB := n2_; have HO342 := n3_; clear n0_ n1_ n2_ n3_; clear ho hb hg hat))
  go_roundg k1
  case measure => have := HK1.out; omega
  case rel => exact ⟨(y340), (wrap64 (x14_1 + 1)), (by first | rfl | (simp; done) | (simp [*]; done)), H', ⟨by have := HK1.out; omega⟩, ⟨by (with_reducible repeat (first | apply Kd.R_alloc | apply Kd.R_drewN | apply Kd.R_drew)); exact Kd.R_mono HO342.out (fun _ hk => trivial)⟩, ⟨bkl BK331⟩, ⟨bel1 HB GE331⟩⟩
/-! ### impl_WorstBox: function 11 -/
mutual
def impl_WorstBox.l0 : Nat → Int → Int → List (List Int) → Int → Int → Option (Int × Int × Bool)
 | 0, _, _, _, _, _ => none
 | k + 1, x5, x6, x18, x19, x20 => if x20 < x19 then (if 0 ≤ x20 then (if x20 < (x18.length : Int) then (impl_WorstBox.l1 k x5 x6 (rd_L2 x18 x20) x18 x19 x20 (rd_L2 x18 x20) ((rd_L2 x18 x20).length : Int) 0) else (none)) else (none)) else (some (x5, x6, decide (x6 > 0)))
def impl_WorstBox.l1 : Nat → Int → Int → List Int → List (List Int) → Int → Int → List Int → Int → Int → Option (Int × Int × Bool)
 | 0, _, _, _, _, _, _, _, _, _ => none
 | k + 1, x5, x6, x8, x18, x19, x20, x24, x25, x26 => if x26 < x25 then (if 0 ≤ x26 then (if x26 < (x24.length : Int) then (if x26 ≤ (x8.length : Int) then (impl_WorstBox.l2 k x5 x6 x8 (rd x24 x26) 0 x18 x19 x20 x24 x25 x26 (x8.take (x26 : Int).toNat) ((x8.take (x26 : Int).toNat).length : Int) 0) else (none)) else (none)) else (none)) else (impl_WorstBox.l0 k x5 x6 x18 x19 (wrap64 (x20 + 1)))
def impl_WorstBox.l2 : Nat → Int → Int → List Int → Int → Int → List (List Int) → Int → Int → List Int → Int → Int → List Int → Int → Int → Option (Int × Int × Bool)
 | 0, _, _, _, _, _, _, _, _, _, _, _, _, _, _ => none
 | k + 1, x5, x6, x8, x10, x11, x18, x19, x20, x24, x25, x26, x33, x34, x35 => if x35 < x34 then (if 0 ≤ x35 then (if x35 < (x33.length : Int) then (if (rd x33 x35) < x10 then (impl_WorstBox.l2 k x5 x6 x8 x10 (wrap64 (x11 + 1)) x18 x19 x20 x24 x25 x26 x33 x34 (wrap64 (x35 + 1))) else (impl_WorstBox.l2 k x5 x6 x8 x10 x11 x18 x19 x20 x24 x25 x26 x33 x34 (wrap64 (x35 + 1)))) else (none)) else (none)) else (if x11 > x6 then (impl_WorstBox.l1 k x10 x11 x8 x18 x19 x20 x24 x25 (wrap64 (x26 + 1))) else (if x11 = x6 then (if x11 > 0 then (if x10 < x5 then (impl_WorstBox.l1 k x10 x11 x8 x18 x19 x20 x24 x25 (wrap64 (x26 + 1))) else (impl_WorstBox.l1 k x5 x6 x8 x18 x19 x20 x24 x25 (wrap64 (x26 + 1)))) else (impl_WorstBox.l1 k x5 x6 x8 x18 x19 x20 x24 x25 (wrap64 (x26 + 1)))) else (impl_WorstBox.l1 k x5 x6 x8 x18 x19 x20 x24 x25 (wrap64 (x26 + 1)))))
end
def impl_WorstBox.f (k : Nat) (l0_0 : List (List Int)) : Option (Int × Int × Bool) := (impl_IsValidYard.f l0_0).bind fun t344 => (if t344 = true then (impl_WorstBox.l0 k 0 0 l0_0 (l0_0.length : Int) 0) else (some (0, 0, false)))
theorem impl_WorstBox.mono_l : ∀ k, (∀ y0 y1 y2 y3 y4, LeO (impl_WorstBox.l0 k y0 y1 y2 y3 y4) (impl_WorstBox.l0 (k + 1) y0 y1 y2 y3 y4)) ∧ (∀ y0 y1 y2 y3 y4 y5 y6 y7 y8, LeO (impl_WorstBox.l1 k y0 y1 y2 y3 y4 y5 y6 y7 y8) (impl_WorstBox.l1 (k + 1) y0 y1 y2 y3 y4 y5 y6 y7 y8)) ∧ (∀ y0 y1 y2 y3 y4 y5 y6 y7 y8 y9 y10 y11 y12 y13, LeO (impl_WorstBox.l2 k y0 y1 y2 y3 y4 y5 y6 y7 y8 y9 y10 y11 y12 y13) (impl_WorstBox.l2 (k + 1) y0 y1 y2 y3 y4 y5 y6 y7 y8 y9 y10 y11 y12 y13))
 | 0 => ⟨fun _ _ _ _ _ r h => by simp [impl_WorstBox.l0] at h, fun _ _ _ _ _ _ _ _ _ r h => by simp [impl_WorstBox.l1] at h, fun _ _ _ _ _ _ _ _ _ _ _ _ _ _ r h => by simp [impl_WorstBox.l2] at h⟩
 | k + 1 => by
  obtain ⟨ih0, ih1, ih2⟩ := impl_WorstBox.mono_l k
  refine ⟨?_, ?_, ?_⟩
  ·intro y0 y1 y2 y3 y4
   unfold impl_WorstBox.l0
   repeat' first
   | (with_reducible exact ih0 _ _ _ _ _)
   | (with_reducible exact ih1 _ _ _ _ _ _ _ _ _)
   | (with_reducible exact ih2 _ _ _ _ _ _ _ _ _ _ _ _ _ _)
   | (with_reducible exact LeO.refl _)
   | (with_reducible exact LeO.none _)
   | (with_reducible refine LeO.ite ?_ ?_)
   | (with_reducible refine LeO.bind ?_ (fun _ => ?_))
   | exact ih0 _ _ _ _ _
   | exact ih1 _ _ _ _ _ _ _ _ _
   | exact ih2 _ _ _ _ _ _ _ _ _ _ _ _ _ _
   | exact LeO.none _
   | refine LeO.ite ?_ ?_
   | refine LeO.bind ?_ (fun _ => ?_)
  ·intro y0 y1 y2 y3 y4 y5 y6 y7 y8
   unfold impl_WorstBox.l1
   repeat' first
   | (with_reducible exact ih0 _ _ _ _ _)
   | (with_reducible exact ih1 _ _ _ _ _ _ _ _ _)
   | (with_reducible exact ih2 _ _ _ _ _ _ _ _ _ _ _ _ _ _)
   | (with_reducible exact LeO.refl _)
   | (with_reducible exact LeO.none _)
   | (with_reducible refine LeO.ite ?_ ?_)
   | (with_reducible refine LeO.bind ?_ (fun _ => ?_))
   | exact ih0 _ _ _ _ _
   | exact ih1 _ _ _ _ _ _ _ _ _
   | exact ih2 _ _ _ _ _ _ _ _ _ _ _ _ _ _
   | exact LeO.none _
   | refine LeO.ite ?_ ?_
   | refine LeO.bind ?_ (fun _ => ?_)
  ·intro y0 y1 y2 y3 y4 y5 y6 y7 y8 y9 y10 y11 y12 y13
   unfold impl_WorstBox.l2
   repeat' first
   | (with_reducible exact ih0 _ _ _ _ _)
   | (with_reducible exact ih1 _ _ _ _ _ _ _ _ _)
   | (with_reducible exact ih2 _ _ _ _ _ _ _ _ _ _ _ _ _ _)
   | (with_reducible exact LeO.refl _)
   | (with_reducible exact LeO.none _)
   | (with_reducible refine LeO.ite ?_ ?_)
   | (with_reducible refine LeO.bind ?_ (fun _ => ?_))
   | exact ih0 _ _ _ _ _
   | exact ih1 _ _ _ _ _ _ _ _ _
   | exact ih2 _ _ _ _ _ _ _ _ _ _ _ _ _ _
   | exact LeO.none _
   | refine LeO.ite ?_ ?_
   | refine LeO.bind ?_ (fun _ => ?_)
theorem impl_WorstBox.mono : ∀ a0 k, LeO (impl_WorstBox.f k a0) (impl_WorstBox.f (k + 1) a0) := by
 intro a0 k
 obtain ⟨ih0, ih1, ih2⟩ := impl_WorstBox.mono_l k
 unfold impl_WorstBox.f
 repeat' first
   | (with_reducible exact ih0 _ _ _ _ _)
   | (with_reducible exact ih1 _ _ _ _ _ _ _ _ _)
   | (with_reducible exact ih2 _ _ _ _ _ _ _ _ _ _ _ _ _ _)
   | (with_reducible exact LeO.refl _)
   | (with_reducible exact LeO.none _)
   | (with_reducible refine LeO.ite ?_ ?_)
   | (with_reducible refine LeO.bind ?_ (fun _ => ?_))
   | exact ih0 _ _ _ _ _
   | exact ih1 _ _ _ _ _ _ _ _ _
   | exact ih2 _ _ _ _ _ _ _ _ _ _ _ _ _ _
   | exact LeO.none _
   | refine LeO.ite ?_ ?_
   | refine LeO.bind ?_ (fun _ => ?_)
set_option maxHeartbeats 8000000 in
set_option maxRecDepth 100000 in
theorem impl_WorstBox.calls (k : Nat) (A0_0 : Option Addr) (c0_0 : Nat) (l0_0 : List (List Int)) (r1 : Int) (r2 : Int) (r3 : Bool) (w : World) (hr0_0 : Kd.C (Kd.slice 3 (Kd.int .i64)) w A0_0 l0_0.length l0_0) (hc0_0 : l0_0.length ≤ c0_0) (h : impl_WorstBox.f k l0_0 = some (r1, r2, r3)) :
  Calls Try.prog 11 #[.agg #[.slice A0_0 l0_0.length c0_0]] w fun e w' => e = .returned (.tuple #[.int .i64 r1, .int .i64 r2, .bool r3]) ∧ Below w.heap.size w w' := by
 have hu26 := Try.underlying26
 have HR0_0 := Aside0.mk hr0_0
 have HC0_0 := Aside0.mk hc0_0
 clear hr0_0 hc0_0
 have HB := Aside0.mk (Below.refl w.heap.size w)
 have H : ((impl_IsValidYard.f l0_0).bind fun t344 => (if t344 = true then (impl_WorstBox.l0 k 0 0 l0_0 (l0_0.length : Int) 0) else (some (0, 0, false)))) = some (r1, r2, r3) := h
 clear h
 replace H := Option.bind_eq_some_iff.mp H
 obtain ⟨t344, A20, H⟩ := H
 replace H : (if t344 = true then (impl_WorstBox.l0 k 0 0 l0_0 (l0_0.length : Int) 0) else (some (0, 0, false))) = some (r1, r2, r3) := H
 have A2 := Aside0.mk A20
 clear A20
 by_cases c3 : t344 = true
 rotate_left
 ·replace c3 := Bool.eq_false_iff.mpr c3
  subst c3
  have H1 : (some (0, 0, false)) = some (r1, r2, r3) := by rw [if_neg (show ¬ (false = true) by decide)] at H; exact H
  clear H
  have H := H1
  clear H1
  simp only [Option.some.injEq, Prod.mk.injEq] at H
  obtain ⟨rfl, rfl, rfl⟩ := H
  go_enter Try.func11, Try.ntmps11
  go_wp2_with (first | ((with_reducible refine gate_dst (N := 1) rfl ?_); refine box_event ?hg (N := 1) ?hd (cs := #[.slice A0_0 l0_0.length c0_0]) (t := 26) ?hr ?_; (case hd => rfl); (case hg => rfl); (case hr => first | (go_simp; done) | (go_simp; rfl)); intro gb343 hg w25 hbox hb; have n0_ := Aside0.mk (below_step (bel HB) hb); have n1_ := Aside0.mk (hbox); have n2_ := Aside0.mk ((by rw [hg]; exact (below_size (bel HB)) : w.heap.size ≤ gb343)); have n3_ := Aside0.mk ((by rw [hg]; exact (below_size (bel HB)) : w.heap.size ≤ gb343)); clear HB; have HB := n0_; have BK343 := n1_; have GW343 := n2_; have GE343 := n3_; clear n0_ n1_ n2_ n3_; clear hb hbox hg; have hcz26_0 : w25.cell? ⟨gb343, 0, none⟩ = some (.slice A0_0 l0_0.length c0_0) := (blk_cell BK343.out 0).trans rfl; have hfz26_0 := blk_frozen BK343.out 0) | ((with_reducible refine gate_callee (f := 28) rfl ?_); refine goesL_ (some 15) rfl rfl Try.func28 (by kernel_rfl) rfl #[.agg #[.slice A0_0 l0_0.length c0_0]] rfl gmp ?_; (with_reducible refine (impl_IsValidYard.calls _ _ l0_0 false _ ?side1 ?side2 A2.out).mono ?_); (case side1 => exact cdl (Kd.C_below HR0_0.out HB.out)); (case side2 => exact HC0_0.out); rintro e w27 ⟨rfl, hb⟩; refine ⟨_, rfl, ?_⟩; have n0_ := Aside0.mk (blk_below (g := gb343) (o := .cells #[.slice A0_0 l0_0.length c0_0] 26 (0, 0)) (bkl BK343) hb); have n1_ := Aside0.mk (below_step (bel1 HB GE343) hb); clear BK343; clear HB; have BK343 := n0_; have HB := n1_; clear n0_ n1_; (try clear hb); (try clear hb2); (try clear hk); (try clear hi)))
  go_ret3
  exact ⟨by first | rfl | (simp [errW_none, errW_some] <;> rfl) | (simp [*, errW_none, errW_some] <;> rfl), bel1 HB GE343⟩
 subst c3
 have H1 : (impl_WorstBox.l0 k 0 0 l0_0 (l0_0.length : Int) 0) = some (r1, r2, r3) := by rw [if_pos rfl] at H; exact H
 clear H
 have H := H1
 clear H1
 have H' := Aside0.mk H
 clear H
 go_enter Try.func11, Try.ntmps11
 go_wp2_with (first | ((with_reducible refine gate_dst (N := 1) rfl ?_); refine box_event ?hg (N := 1) ?hd (cs := #[.slice A0_0 l0_0.length c0_0]) (t := 26) ?hr ?_; (case hd => rfl); (case hg => rfl); (case hr => first | (go_simp; done) | (go_simp; rfl)); intro gb343 hg w4 hbox hb; have n0_ := Aside0.mk (below_step (bel HB) hb); have n1_ := Aside0.mk (hbox); have n2_ := Aside0.mk ((by rw [hg]; exact (below_size (bel HB)) : w.heap.size ≤ gb343)); have n3_ := Aside0.mk ((by rw [hg]; exact (below_size (bel HB)) : w.heap.size ≤ gb343)); clear HB; have HB := n0_; have BK343 := n1_; have GW343 := n2_; have GE343 := n3_; clear n0_ n1_ n2_ n3_; clear hb hbox hg; have hcz5_0 : w4.cell? ⟨gb343, 0, none⟩ = some (.slice A0_0 l0_0.length c0_0) := (blk_cell BK343.out 0).trans rfl; have hfz5_0 := blk_frozen BK343.out 0) | ((with_reducible refine gate_callee (f := 28) rfl ?_); refine goesL_ (some 15) rfl rfl Try.func28 (by kernel_rfl) rfl #[.agg #[.slice A0_0 l0_0.length c0_0]] rfl gmp ?_; (with_reducible refine (impl_IsValidYard.calls _ _ l0_0 true _ ?side1 ?side2 A2.out).mono ?_); (case side1 => exact cdl (Kd.C_below HR0_0.out HB.out)); (case side2 => exact HC0_0.out); rintro e w6 ⟨rfl, hb⟩; refine ⟨_, rfl, ?_⟩; have n0_ := Aside0.mk (blk_below (g := gb343) (o := .cells #[.slice A0_0 l0_0.length c0_0] 26 (0, 0)) (bkl BK343) hb); have n1_ := Aside0.mk (below_step (bel1 HB GE343) hb); clear BK343; clear HB; have BK343 := n0_; have HB := n1_; clear n0_ n1_; (try clear hb); (try clear hb2); (try clear hk); (try clear hi); have hcz7_0 : w6.cell? ⟨gb343, 0, none⟩ = some (.slice A0_0 l0_0.length c0_0) := (blk_cell BK343.out 0).trans rfl; have hfz7_0 := blk_frozen BK343.out 0))
 go_loopg [5, 6, 20] k (fun kq v5 v6 v20 w' => ∃ (x5_1 : Int) (x6_1 : Int) (x20_1 : Int), v5 = .int .i64 x5_1 ∧ v6 = .int .i64 x6_1 ∧ v20 = .int .i64 x20_1 ∧ Aside0 (impl_WorstBox.l0 kq x5_1 x6_1 l0_0 (l0_0.length : Int) x20_1 = some (r1, r2, r3)) ∧ Aside0 (kq ≤ k) ∧ Aside0 (w'.heap[gb343]? = some (.cells #[(.slice A0_0 l0_0.length c0_0)] 26 (0, 0))) ∧ Aside0 (Below w.heap.size w w'))
 case atStart => exact ⟨(0), (0), (0), (by first | rfl | (simp; done) | (simp [*]; done)), (by first | rfl | (simp; done) | (simp [*]; done)), (by first | rfl | (simp; done) | (simp [*]; done)), H', ⟨Nat.le_refl _⟩, ⟨bkl BK343⟩, ⟨bel1 HB GE343⟩⟩
 clear H'
 try clear c1
 try clear c2
 try clear p2
 try clear c3
 try clear hcz5_0
 try clear hcz7_0
 try clear hfz5_0
 try clear hfz7_0
 obtain ⟨x5_1, x6_1, x20_1, rfl, rfl, rfl, HA, HK1, BK343, HB⟩ := hrel
 cases gk with
 | zero => exact absurd HA.out (by simp [impl_WorstBox.l0])
 | succ k1 =>
  have H := HA.out
  clear HA
  simp only [impl_WorstBox.l0] at H
  by_cases c8 : x20_1 < (l0_0.length : Int)
  rotate_left
  ·rw [if_neg c8] at H
   have c8b0 : decide (x20_1 < (l0_0.length : Int)) = false := decide_eq_false c8
   clear c8
   simp only [Option.some.injEq, Prod.mk.injEq] at H
   obtain ⟨rfl, rfl, rfl⟩ := H
   go_wp2
   go_ret3
   exact ⟨by first | rfl | (simp [errW_none, errW_some] <;> rfl) | (simp [*, errW_none, errW_some] <;> rfl), bel1 HB GE343⟩
  rw [if_pos c8] at H
  have c8b0 : decide (x20_1 < (l0_0.length : Int)) = true := decide_eq_true c8
  clear c8
  by_cases c9 : 0 ≤ x20_1
  rotate_left
  ·rw [if_neg c9] at H
   exact absurd H (by simp)
  rw [if_pos c9] at H
  have c9b0 : decide (0 ≤ x20_1) = true := decide_eq_true c9
  clear c9
  by_cases c10 : x20_1 < (l0_0.length : Int)
  rotate_left
  ·rw [if_neg c10] at H
   exact absurd H (by simp)
  rw [if_pos c10] at H
  have c10b0 : decide (x20_1 < (l0_0.length : Int)) = true := decide_eq_true c10
  clear c10
  have H' := Aside0.mk H
  clear H
  have p345 : 0 ≤ (x20_1 : Int) := oda
  have q345 : x20_1 < (l0_0.length : Int) := oda
  obtain ⟨ad345, A345_0, c345_0, e345, hx345_0, hl345_0, hi345_0⟩ := at_L2 HR0_0.out x20_1 p345 q345
  cases e345
  replace hx345_0 := cel HB hx345_0
  have HR345_0 := Aside0.mk hi345_0
  have HC345_0 := Aside0.mk hl345_0
  clear hi345_0 hl345_0
  replace p345 := eq_true p345
  replace q345 := eq_true q345
  go_wp2
  go_loopg [5, 6, 26] k1 (fun kq v5 v6 v26 w' => ∃ (x5_2 : Int) (x6_2 : Int) (x26_2 : Int), v5 = .int .i64 x5_2 ∧ v6 = .int .i64 x6_2 ∧ v26 = .int .i64 x26_2 ∧ Aside0 (impl_WorstBox.l1 kq x5_2 x6_2 (rd_L2 l0_0 x20_1) l0_0 (l0_0.length : Int) x20_1 (rd_L2 l0_0 x20_1) ((rd_L2 l0_0 x20_1).length : Int) x26_2 = some (r1, r2, r3)) ∧ Aside0 (kq ≤ k1) ∧ Aside0 (w'.heap[gb343]? = some (.cells #[(.slice (some ad345) l0_0.length c0_0)] 26 (0, 0))) ∧ Aside0 (Below w.heap.size w w'))
  case atStart => exact ⟨(x5_1), (x6_1), (0), (by first | rfl | (simp; done) | (simp [*]; done)), (by first | rfl | (simp; done) | (simp [*]; done)), (by first | rfl | (simp; done) | (simp [*]; done)), H', ⟨Nat.le_refl _⟩, ⟨bkl BK343⟩, ⟨bel1 HB GE343⟩⟩
  clear H'
  try clear c1
  try clear c2
  try clear p2
  try clear c3
  try clear p3
  try clear q3
  try clear hx3
  try clear c8
  try clear c8b0
  try clear c9
  try clear c9b0
  try clear c10
  try clear c10b0
  try clear hcz5_0
  try clear hcz7_0
  try clear hfz5_0
  try clear hfz7_0
  try clear hx345_0
  try clear p2
  try clear p345
  try clear q345
  obtain ⟨x5_2, x6_2, x26_2, rfl, rfl, rfl, HA, HK2, BK343, HB⟩ := hrel
  cases gk with
  | zero => exact absurd HA.out (by simp [impl_WorstBox.l1])
  | succ k2 =>
   have H := HA.out
   clear HA
   simp only [impl_WorstBox.l1] at H
   by_cases c11 : x26_2 < ((rd_L2 l0_0 x20_1).length : Int)
   rotate_left
   ·rw [if_neg c11] at H
    have c11b0 : decide (x26_2 < ((rd_L2 l0_0 x20_1).length : Int)) = false := decide_eq_false c11
    clear c11
    have H' := Aside0.mk H
    clear H
    go_wp2
    go_roundg k2
    case measure => have := HK1.out; have := HK2.out; omega
    case rel => exact ⟨(x5_2), (x6_2), (wrap64 (x20_1 + 1)), (by first | rfl | (simp; done) | (simp [*]; done)), (by first | rfl | (simp; done) | (simp [*]; done)), (by first | rfl | (simp; done) | (simp [*]; done)), H', ⟨by have := HK1.out; have := HK2.out; omega⟩, ⟨bkl BK343⟩, ⟨bel1 HB GE343⟩⟩
   rw [if_pos c11] at H
   have c11b0 : decide (x26_2 < ((rd_L2 l0_0 x20_1).length : Int)) = true := decide_eq_true c11
   clear c11
   by_cases c12 : 0 ≤ x26_2
   rotate_left
   ·rw [if_neg c12] at H
    exact absurd H (by simp)
   rw [if_pos c12] at H
   have c12b0 : decide (0 ≤ x26_2) = true := decide_eq_true c12
   clear c12
   by_cases c13 : x26_2 < ((rd_L2 l0_0 x20_1).length : Int)
   rotate_left
   ·rw [if_neg c13] at H
    exact absurd H (by simp)
   rw [if_pos c13] at H
   have c13b0 : decide (x26_2 < ((rd_L2 l0_0 x20_1).length : Int)) = true := decide_eq_true c13
   clear c13
   have c14b0 := eq_true (oda : 0 ≤ x26_2)
   by_cases c15 : x26_2 ≤ ((rd_L2 l0_0 x20_1).length : Int)
   rotate_left
   ·rw [if_neg c15] at H
    exact absurd H (by simp)
   rw [if_pos c15] at H
   have c15b0 := eq_true c15
   have c15b1 : decide (x26_2 ≤ ((rd_L2 l0_0 x20_1).length : Int)) = true := decide_eq_true c15
   have HQ_x26_2 := Aside0.mk (of_decide_eq_true c15b1)
   clear c15
   have H' := Aside0.mk H
   clear H
   have p346 : 0 ≤ (x26_2 : Int) := oda
   have q346 : x26_2 < ((rd_L2 l0_0 x20_1).length : Int) := oda
   obtain ⟨ad346, e346, hx346_0⟩ := Kd.at_int HR345_0.out x26_2 p346 q346
   cases e346
   replace hx346_0 := cel HB hx346_0
   replace p346 := eq_true p346
   replace q346 := eq_true q346
   obtain ⟨i016, hi016, _, hsz16, _⟩ := info_parts info3
   obtain ⟨hcut16, hA16, hC16⟩ := print_take_of (P := Try.prog) (Value.int .i64) 0 28 3 .i64 Try.underlying28 hi016 hsz16 (some ad346) c345_0 (rd_L2 l0_0 x20_1) x26_2 (oda) (oda) HC345_0.out
   have HR347 := Aside0.mk (Kd.C_of_reads (h1 := fun _ => rfl) (hA16 _ (Kd.reads_of_C HR345_0.out)))
   have HC347 := Aside0.mk hC16
   clear hA16 hC16 hi016 hsz16
   go_wp2
   go_loopg [11, 35] k2 (fun kq v11 v35 w' => ∃ (x11_3 : Int) (x35_3 : Int), v11 = .int .i64 x11_3 ∧ v35 = .int .i64 x35_3 ∧ Aside0 (impl_WorstBox.l2 kq x5_2 x6_2 (rd_L2 l0_0 x20_1) (rd (rd_L2 l0_0 x20_1) x26_2) x11_3 l0_0 (l0_0.length : Int) x20_1 (rd_L2 l0_0 x20_1) ((rd_L2 l0_0 x20_1).length : Int) x26_2 ((rd_L2 l0_0 x20_1).take (x26_2 : Int).toNat) (((rd_L2 l0_0 x20_1).take (x26_2 : Int).toNat).length : Int) x35_3 = some (r1, r2, r3)) ∧ Aside0 (kq ≤ k2) ∧ Aside0 (w'.heap[gb343]? = some (.cells #[(.slice (some ad345) l0_0.length c0_0)] 26 (0, 0))) ∧ Aside0 (Below w.heap.size w w'))
   case atStart => exact ⟨(0), (0), (by first | rfl | (simp; done) | (simp [*]; done)), (by first | rfl | (simp; done) | (simp [*]; done)), H', ⟨Nat.le_refl _⟩, ⟨bkl BK343⟩, ⟨bel1 HB GE343⟩⟩
   clear H'
   try clear c1
   try clear c2
   try clear p2
   try clear c3
   try clear p3
   try clear q3
   try clear hx3
   try clear c8
   try clear c8b0
   try clear c9
   try clear c9b0
   try clear c10
   try clear c10b0
   try clear c11
   try clear c11b0
   try clear c12
   try clear c12b0
   try clear c13
   try clear c13b0
   try clear c14
   try clear c14b0
   try clear c15
   try clear c15b0
   try clear c15b1
   try clear hcz5_0
   try clear hcz7_0
   try clear hfz5_0
   try clear hfz7_0
   try clear hx345_0
   try clear hx346_0
   try clear p2
   try clear p3
   try clear p345
   try clear p346
   try clear q3
   try clear q345
   try clear q346
   obtain ⟨x11_3, x35_3, rfl, rfl, HA, HK3, BK343, HB⟩ := hrel
   cases gk with
   | zero => exact absurd HA.out (by simp [impl_WorstBox.l2])
   | succ k3 =>
    have H := HA.out
    clear HA
    simp only [impl_WorstBox.l2] at H
    by_cases c17 : x35_3 < (((rd_L2 l0_0 x20_1).take (x26_2 : Int).toNat).length : Int)
    ·rw [if_pos c17] at H
     have c17b0 : decide (x35_3 < (((rd_L2 l0_0 x20_1).take (x26_2 : Int).toNat).length : Int)) = true := decide_eq_true c17
     have c17b8 : decide (x35_3 < max x26_2 0) = true := by have h_ := c17b0; have hq_ := HQ_x26_2.out; rw [← h_]; refine decide_eq_decide.2 ?_; simp only [decide_eq_true_eq, decide_eq_false_iff_not, List.length_take] at *; omega
     have c17b9 : (x35_3 < max x26_2 0) = True := eq_true (of_decide_eq_true c17b8)
     clear c17
     by_cases c18 : 0 ≤ x35_3
     rotate_left
     ·rw [if_neg c18] at H
      exact absurd H (by simp)
     rw [if_pos c18] at H
     have c18b0 : decide (0 ≤ x35_3) = true := decide_eq_true c18
     clear c18
     by_cases c19 : x35_3 < (((rd_L2 l0_0 x20_1).take (x26_2 : Int).toNat).length : Int)
     rotate_left
     ·rw [if_neg c19] at H
      exact absurd H (by simp)
     rw [if_pos c19] at H
     have c19b0 : decide (x35_3 < (((rd_L2 l0_0 x20_1).take (x26_2 : Int).toNat).length : Int)) = true := decide_eq_true c19
     have c19b8 : decide (x35_3 < max x26_2 0) = true := by have h_ := c19b0; have hq_ := HQ_x26_2.out; rw [← h_]; refine decide_eq_decide.2 ?_; simp only [decide_eq_true_eq, decide_eq_false_iff_not, List.length_take] at *; omega
     have c19b9 : (x35_3 < max x26_2 0) = True := eq_true (of_decide_eq_true c19b8)
     clear c19
     by_cases c20 : (rd ((rd_L2 l0_0 x20_1).take (x26_2 : Int).toNat) x35_3) < (rd (rd_L2 l0_0 x20_1) x26_2)
     rotate_left
     ·rw [if_neg c20] at H
      have c20b0 : decide ((rd ((rd_L2 l0_0 x20_1).take (x26_2 : Int).toNat) x35_3) < (rd (rd_L2 l0_0 x20_1) x26_2)) = false := decide_eq_false c20
      clear c20
      have H' := Aside0.mk H
      clear H
      have p348 : 0 ≤ (x35_3 : Int) := oda
      have q348 : x35_3 < (((rd_L2 l0_0 x20_1).take (x26_2 : Int).toNat).length : Int) := oda
      obtain ⟨ad348, e348, hx348_0⟩ := Kd.at_int HR347.out x35_3 p348 q348
      obtain rfl : ad346 = ad348 := (by injection e348)
      replace hx348_0 := cel HB hx348_0
      replace p348 := eq_true p348
      replace q348 := eq_true q348
      go_wp2
      go_roundg k3
      case measure => have := HK1.out; have := HK2.out; have := HK3.out; omega
      case rel => exact ⟨(x11_3), (wrap64 (x35_3 + 1)), (by first | rfl | (simp; done) | (simp [*]; done)), (by first | rfl | (simp; done) | (simp [*]; done)), H', ⟨by have := HK1.out; have := HK2.out; have := HK3.out; omega⟩, ⟨bkl BK343⟩, ⟨bel1 HB GE343⟩⟩
     rw [if_pos c20] at H
     have c20b0 : decide ((rd ((rd_L2 l0_0 x20_1).take (x26_2 : Int).toNat) x35_3) < (rd (rd_L2 l0_0 x20_1) x26_2)) = true := decide_eq_true c20
     clear c20
     have H' := Aside0.mk H
     clear H
     have p348 : 0 ≤ (x35_3 : Int) := oda
     have q348 : x35_3 < (((rd_L2 l0_0 x20_1).take (x26_2 : Int).toNat).length : Int) := oda
     obtain ⟨ad348, e348, hx348_0⟩ := Kd.at_int HR347.out x35_3 p348 q348
     obtain rfl : ad346 = ad348 := (by injection e348)
     replace hx348_0 := cel HB hx348_0
     replace p348 := eq_true p348
     replace q348 := eq_true q348
     go_wp2
     go_roundg k3
     case measure => have := HK1.out; have := HK2.out; have := HK3.out; omega
     case rel => exact ⟨(wrap64 (x11_3 + 1)), (wrap64 (x35_3 + 1)), (by first | rfl | (simp; done) | (simp [*]; done)), (by first | rfl | (simp; done) | (simp [*]; done)), H', ⟨by have := HK1.out; have := HK2.out; have := HK3.out; omega⟩, ⟨bkl BK343⟩, ⟨bel1 HB GE343⟩⟩
    rw [if_neg c17] at H
    have c17b0 : decide (x35_3 < (((rd_L2 l0_0 x20_1).take (x26_2 : Int).toNat).length : Int)) = false := decide_eq_false c17
    have c17b8 : decide (x35_3 < max x26_2 0) = false := by have h_ := c17b0; have hq_ := HQ_x26_2.out; rw [← h_]; refine decide_eq_decide.2 ?_; simp only [decide_eq_true_eq, decide_eq_false_iff_not, List.length_take] at *; omega
    clear c17
    by_cases c21 : x11_3 > x6_2
    ·rw [if_pos c21] at H
     have c21b0 : decide (x6_2 < x11_3) = true := decide_eq_true c21
     clear c21
     have H' := Aside0.mk H
     clear H
     go_wp2
     go_roundg k3
     case measure => have := HK1.out; have := HK2.out; have := HK3.out; omega
     case rel => exact ⟨((rd (rd_L2 l0_0 x20_1) x26_2)), (x11_3), (wrap64 (x26_2 + 1)), (by first | rfl | (simp; done) | (simp [*]; done)), (by first | rfl | (simp; done) | (simp [*]; done)), (by first | rfl | (simp; done) | (simp [*]; done)), H', ⟨by have := HK1.out; have := HK2.out; have := HK3.out; omega⟩, ⟨bkl BK343⟩, ⟨bel1 HB GE343⟩⟩
    rw [if_neg c21] at H
    have c21b0 : decide (x6_2 < x11_3) = false := decide_eq_false c21
    clear c21
    by_cases c22 : x11_3 = x6_2
    rotate_left
    ·rw [if_neg c22] at H
     have c22b0 : (x11_3 == x6_2) = false := beq_eq_false_iff_ne.mpr c22
     have c22b1 : (x11_3 != x6_2) = true := bne_iff_ne.mpr c22
     have H' := Aside0.mk H
     clear H
     go_wp2
     go_roundg k3
     case measure => have := HK1.out; have := HK2.out; have := HK3.out; omega
     case rel => exact ⟨(x5_2), (x6_2), (wrap64 (x26_2 + 1)), (by first | rfl | (simp; done) | (simp [*]; done)), (by first | rfl | (simp; done) | (simp [*]; done)), (by first | rfl | (simp; done) | (simp [*]; done)), H', ⟨by have := HK1.out; have := HK2.out; have := HK3.out; omega⟩, ⟨bkl BK343⟩, ⟨bel1 HB GE343⟩⟩
    rw [if_pos c22] at H
    have c22b0 : (x11_3 == x6_2) = true := beq_iff_eq.mpr c22
    have c22b1 : (x11_3 != x6_2) = false := bne_eq_false_iff_eq.mpr c22
    clear c22
    by_cases c23 : x11_3 > 0
    rotate_left
    ·rw [if_neg c23] at H
     have c23b0 : decide (0 < x11_3) = false := decide_eq_false c23
     clear c23
     have H' := Aside0.mk H
     clear H
     go_wp2
     go_roundg k3
     case measure => have := HK1.out; have := HK2.out; have := HK3.out; omega
     case rel => exact ⟨(x5_2), (x6_2), (wrap64 (x26_2 + 1)), (by first | rfl | (simp; done) | (simp [*]; done)), (by first | rfl | (simp; done) | (simp [*]; done)), (by first | rfl | (simp; done) | (simp [*]; done)), H', ⟨by have := HK1.out; have := HK2.out; have := HK3.out; omega⟩, ⟨bkl BK343⟩, ⟨bel1 HB GE343⟩⟩
    rw [if_pos c23] at H
    have c23b0 : decide (0 < x11_3) = true := decide_eq_true c23
    clear c23
    by_cases c24 : (rd (rd_L2 l0_0 x20_1) x26_2) < x5_2
    rotate_left
    ·rw [if_neg c24] at H
     have c24b0 : decide ((rd (rd_L2 l0_0 x20_1) x26_2) < x5_2) = false := decide_eq_false c24
     clear c24
     have H' := Aside0.mk H
     clear H
     go_wp2
     go_roundg k3
     case measure => have := HK1.out; have := HK2.out; have := HK3.out; omega
     case rel => exact ⟨(x5_2), (x6_2), (wrap64 (x26_2 + 1)), (by first | rfl | (simp; done) | (simp [*]; done)), (by first | rfl | (simp; done) | (simp [*]; done)), (by first | rfl | (simp; done) | (simp [*]; done)), H', ⟨by have := HK1.out; have := HK2.out; have := HK3.out; omega⟩, ⟨bkl BK343⟩, ⟨bel1 HB GE343⟩⟩
    rw [if_pos c24] at H
    have c24b0 : decide ((rd (rd_L2 l0_0 x20_1) x26_2) < x5_2) = true := decide_eq_true c24
    clear c24
    have H' := Aside0.mk H
    clear H
    go_wp2
    go_roundg k3
    case measure => have := HK1.out; have := HK2.out; have := HK3.out; omega
    case rel => exact ⟨((rd (rd_L2 l0_0 x20_1) x26_2)), (x11_3), (wrap64 (x26_2 + 1)), (by first | rfl | (simp; done) | (simp [*]; done)), (by first | rfl | (simp; done) | (simp [*]; done)), (by first | rfl | (simp; done) | (simp [*]; done)), H', ⟨by have := HK1.out; have := HK2.out; have := HK3.out; omega⟩, ⟨bkl BK343⟩, ⟨bel1 HB GE343⟩⟩
end Go.Proofs.Ytmggkimmnekhcaa.P
