-- Written by a program of this session over the translation (a variant of the printer, see wip/gen); Lean checks it.
import Derived.Test.YtmpmcckjpkijnaaPx0
import Derived.Test.YtmpmcckjpkijnaaPx10
import Derived.Test.YtmpmcckjpkijnaaPx11
import Derived.Test.YtmpmcckjpkijnaaPx15
namespace Go.Proofs.Ytmpmcckjpkijnaa.P
open Go.RowKit Go.Proofs.YtmpmcckjpkijnaaW.PrintWords Go.Proofs.YtmpmcckjpkijnaaW.PrintLast Go.Proofs.YtmpmcckjpkijnaaW.PrintMore
attribute [local go_sem] Go.Proofs.Ytmpmcckjpkijnaa.V.isSome_setCell max2_int min2_int max_two min_two max_three min_three max_four min_four   -- for this text's walks alone
set_option linter.unusedVariables false
set_option linter.unusedSimpArgs false

/-! ### impl_areYard: function 50 -/
mutual
def impl_areYard.j0 : Nat → List (S69) → Bool → List (List Int) → Option (Bool)
 | 0, _, _, _ => none
 | k + 1, x1, x23, x234000 => if x23 = true then (some false) else (impl_areYard.l0 k x1 x234000 (x234000.length : Int) 0)
def impl_areYard.l0 : Nat → List (S69) → List (List Int) → Int → Int → Option (Bool)
 | 0, _, _, _, _ => none
 | k + 1, x1, x25, x26, x27 => if x27 < x26 then (if 0 ≤ x27 then (if x27 < (x25.length : Int) then (impl_areYard.l1 k x1 x25 x26 x27 (rd_L1 x25 x27) ((rd_L1 x25 x27).length : Int) 0) else (none)) else (none)) else (some true)
def impl_areYard.l1 : Nat → List (S69) → List (List Int) → Int → Int → List Int → Int → Int → Option (Bool)
 | 0, _, _, _, _, _, _, _ => none
 | k + 1, x1, x25, x26, x27, x31, x32, x33 => if x33 < x32 then (if 0 ≤ x33 then (if x33 < (x31.length : Int) then (if (rd x31 x33) > (x1.length : Int) then (some false) else (impl_areYard.l1 k x1 x25 x26 x27 x31 x32 (wrap64 (x33 + 1)))) else (none)) else (none)) else (impl_areYard.l0 k x1 x25 x26 (wrap64 (x27 + 1)))
end
def impl_areYard.f (k : Nat) (l0_0 : List (List Int)) (l1 : List (S69)) (a2 : Int) : Option (Bool) := (impl_IsValidYard.f l0_0).bind fun t234 => (if t234 = true then ((impl_IsValidContainers.f k l1).bind fun t235 => (if t235 = true then ((impl_within.f a2 0 6).bind fun t236 => (impl_areYard.j0 k l1 (!t236) l0_0)) else (impl_areYard.j0 k l1 true l0_0))) else (impl_areYard.j0 k l1 true l0_0))
theorem impl_areYard.mono_l : ∀ k, (∀ y0 y1 y2, LeO (impl_areYard.j0 k y0 y1 y2) (impl_areYard.j0 (k + 1) y0 y1 y2)) ∧ (∀ y0 y1 y2 y3, LeO (impl_areYard.l0 k y0 y1 y2 y3) (impl_areYard.l0 (k + 1) y0 y1 y2 y3)) ∧ (∀ y0 y1 y2 y3 y4 y5 y6, LeO (impl_areYard.l1 k y0 y1 y2 y3 y4 y5 y6) (impl_areYard.l1 (k + 1) y0 y1 y2 y3 y4 y5 y6))
 | 0 => ⟨fun _ _ _ r h => by simp [impl_areYard.j0] at h, fun _ _ _ _ r h => by simp [impl_areYard.l0] at h, fun _ _ _ _ _ _ _ r h => by simp [impl_areYard.l1] at h⟩
 | k + 1 => by
  obtain ⟨ih0, ih1, ih2⟩ := impl_areYard.mono_l k
  refine ⟨?_, ?_, ?_⟩
  ·intro y0 y1 y2
   unfold impl_areYard.j0
   repeat' first
   | (with_reducible exact ih0 _ _ _)
   | (with_reducible exact ih1 _ _ _ _)
   | (with_reducible exact ih2 _ _ _ _ _ _ _)
   | (with_reducible exact impl_IsValidContainers.mono _ _)
   | (with_reducible exact LeO.refl _)
   | (with_reducible exact LeO.none _)
   | (with_reducible refine LeO.ite ?_ ?_)
   | (with_reducible refine LeO.bind ?_ (fun _ => ?_))
   | exact ih0 _ _ _
   | exact ih1 _ _ _ _
   | exact ih2 _ _ _ _ _ _ _
   | exact impl_IsValidContainers.mono _ _
   | exact LeO.none _
   | refine LeO.ite ?_ ?_
   | refine LeO.bind ?_ (fun _ => ?_)
  ·intro y0 y1 y2 y3
   unfold impl_areYard.l0
   repeat' first
   | (with_reducible exact ih0 _ _ _)
   | (with_reducible exact ih1 _ _ _ _)
   | (with_reducible exact ih2 _ _ _ _ _ _ _)
   | (with_reducible exact impl_IsValidContainers.mono _ _)
   | (with_reducible exact LeO.refl _)
   | (with_reducible exact LeO.none _)
   | (with_reducible refine LeO.ite ?_ ?_)
   | (with_reducible refine LeO.bind ?_ (fun _ => ?_))
   | exact ih0 _ _ _
   | exact ih1 _ _ _ _
   | exact ih2 _ _ _ _ _ _ _
   | exact impl_IsValidContainers.mono _ _
   | exact LeO.none _
   | refine LeO.ite ?_ ?_
   | refine LeO.bind ?_ (fun _ => ?_)
  ·intro y0 y1 y2 y3 y4 y5 y6
   unfold impl_areYard.l1
   repeat' first
   | (with_reducible exact ih0 _ _ _)
   | (with_reducible exact ih1 _ _ _ _)
   | (with_reducible exact ih2 _ _ _ _ _ _ _)
   | (with_reducible exact impl_IsValidContainers.mono _ _)
   | (with_reducible exact LeO.refl _)
   | (with_reducible exact LeO.none _)
   | (with_reducible refine LeO.ite ?_ ?_)
   | (with_reducible refine LeO.bind ?_ (fun _ => ?_))
   | exact ih0 _ _ _
   | exact ih1 _ _ _ _
   | exact ih2 _ _ _ _ _ _ _
   | exact impl_IsValidContainers.mono _ _
   | exact LeO.none _
   | refine LeO.ite ?_ ?_
   | refine LeO.bind ?_ (fun _ => ?_)
theorem impl_areYard.mono : ∀ a0 a1 a2 k, LeO (impl_areYard.f k a0 a1 a2) (impl_areYard.f (k + 1) a0 a1 a2) := by
 intro a0 a1 a2 k
 obtain ⟨ih0, ih1, ih2⟩ := impl_areYard.mono_l k
 unfold impl_areYard.f
 repeat' first
   | (with_reducible exact ih0 _ _ _)
   | (with_reducible exact ih1 _ _ _ _)
   | (with_reducible exact ih2 _ _ _ _ _ _ _)
   | (with_reducible exact impl_IsValidContainers.mono _ _)
   | (with_reducible exact LeO.refl _)
   | (with_reducible exact LeO.none _)
   | (with_reducible refine LeO.ite ?_ ?_)
   | (with_reducible refine LeO.bind ?_ (fun _ => ?_))
   | exact ih0 _ _ _
   | exact ih1 _ _ _ _
   | exact ih2 _ _ _ _ _ _ _
   | exact impl_IsValidContainers.mono _ _
   | exact LeO.none _
   | refine LeO.ite ?_ ?_
   | refine LeO.bind ?_ (fun _ => ?_)
set_option maxHeartbeats 8000000 in
set_option maxRecDepth 100000 in
theorem impl_areYard.calls (k : Nat) (A0_0 : Option Addr) (c0_0 : Nat) (l0_0 : List (List Int)) (A1 : Option Addr) (c1 : Nat) (l1 : List (S69)) (a2 : Int) (r : Bool) (w : World) (hr0_0 : Kd.C (Kd.slice 3 (Kd.int .i64)) w A0_0 l0_0.length l0_0) (hc0_0 : l0_0.length ≤ c0_0) (hr1 : Kd.C k69 w A1 l1.length l1) (hc1 : l1.length ≤ c1) (h : impl_areYard.f k l0_0 l1 a2 = some r) :
  Calls Try.prog 50 #[.agg #[.slice A0_0 l0_0.length c0_0], .slice A1 l1.length c1, .int .i64 a2] w fun e w' => e = .returned (.bool r) ∧ Below w.heap.size w w' := by
 have hu30 := Try.underlying30
 have HR0_0 := Aside0.mk hr0_0
 have HC0_0 := Aside0.mk hc0_0
 clear hr0_0 hc0_0
 have HR1 := Aside0.mk hr1
 have HC1 := Aside0.mk hc1
 clear hr1 hc1
 have HB := Aside0.mk (Below.refl w.heap.size w)
 have H : ((impl_IsValidYard.f l0_0).bind fun t234 => (if t234 = true then ((impl_IsValidContainers.f k l1).bind fun t235 => (if t235 = true then ((impl_within.f a2 0 6).bind fun t236 => (impl_areYard.j0 k l1 (!t236) l0_0)) else (impl_areYard.j0 k l1 true l0_0))) else (impl_areYard.j0 k l1 true l0_0))) = some r := h
 clear h
 have HC4 := Aside0.mk H
 clear H
 go_enter Try.func50, Try.ntmps50
 go_upto_region 1 with (first | ((with_reducible refine gate_dst (N := 3) rfl ?_); refine box_event ?hg (N := 3) ?hd (cs := #[.slice A0_0 l0_0.length c0_0]) (t := 30) ?hr ?_; (case hd => rfl); (case hg => rfl); (case hr => first | (go_simp; done) | (go_simp; rfl)); intro gb233 hg w5 hbox hb; have n0_ := Aside0.mk (below_step (bel HB) hb); have n1_ := Aside0.mk (hbox); have n2_ := Aside0.mk ((by rw [hg]; exact (below_size (bel HB)) : w.heap.size ≤ gb233)); have n3_ := Aside0.mk ((by rw [hg]; exact (below_size (bel HB)) : w.heap.size ≤ gb233)); clear HB; have HB := n0_; have BK233 := n1_; have GW233 := n2_; have GE233 := n3_; clear n0_ n1_ n2_ n3_; clear hb hbox hg))
 (try simp only [Act.put, List.setIfInBounds_toArray, List.set_cons_zero, List.set_cons_succ])
 go_cut [23] (fun v23 wc => ∃ (kq : Nat) (x23_3 : Bool), v23 = .bool x23_3 ∧ Aside0 (impl_areYard.j0 kq l1 x23_3 l0_0 = some r) ∧ Aside0 (kq ≤ k) ∧ Aside0 (wc.heap[gb233]? = some (.cells #[(.slice A0_0 l0_0.length c0_0)] 30 (0, 0))) ∧ Aside0 (Below w.heap.size w wc))
 case first =>
  have H := HC4.out
  clear HC4
  replace H := Option.bind_eq_some_iff.mp H
  obtain ⟨t234, A60, H⟩ := H
  replace H : (if t234 = true then ((impl_IsValidContainers.f k l1).bind fun t235 => (if t235 = true then ((impl_within.f a2 0 6).bind fun t236 => (impl_areYard.j0 k l1 (!t236) l0_0)) else (impl_areYard.j0 k l1 true l0_0))) else (impl_areYard.j0 k l1 true l0_0)) = some r := H
  have A6 := Aside0.mk A60
  clear A60
  by_cases c7 : t234 = true
  ·subst c7
   have H1 : ((impl_IsValidContainers.f k l1).bind fun t235 => (if t235 = true then ((impl_within.f a2 0 6).bind fun t236 => (impl_areYard.j0 k l1 (!t236) l0_0)) else (impl_areYard.j0 k l1 true l0_0))) = some r := by rw [if_pos rfl] at H; exact H
   clear H
   have H := H1
   clear H1
   replace H := Option.bind_eq_some_iff.mp H
   obtain ⟨t235, A80, H⟩ := H
   replace H : (if t235 = true then ((impl_within.f a2 0 6).bind fun t236 => (impl_areYard.j0 k l1 (!t236) l0_0)) else (impl_areYard.j0 k l1 true l0_0)) = some r := H
   have A8 := Aside0.mk A80
   clear A80
   by_cases c9 : t235 = true
   ·subst c9
    have H1 : ((impl_within.f a2 0 6).bind fun t236 => (impl_areYard.j0 k l1 (!t236) l0_0)) = some r := by rw [if_pos rfl] at H; exact H
    clear H
    have H := H1
    clear H1
    replace H := Option.bind_eq_some_iff.mp H
    obtain ⟨t236, A100, H⟩ := H
    replace H : (impl_areYard.j0 k l1 (!t236) l0_0) = some r := H
    have A10 := Aside0.mk A100
    clear A100
    have H' := Aside0.mk H
    clear H
    have hcz11_0 : w5.cell? ⟨gb233, 0, none⟩ = some (.slice A0_0 l0_0.length c0_0) := (blk_cell BK233.out 0).trans rfl
    have hfz11_0 := blk_frozen BK233.out 0
    go_wp2_with (first | ((with_reducible refine gate_callee (f := 73) rfl ?_); refine goesL_ (some 12) rfl rfl Try.func73 (by kernel_rfl) rfl #[.agg #[.slice A0_0 l0_0.length c0_0]] rfl gmp ?_; (with_reducible refine (impl_IsValidYard.calls _ _ l0_0 true _ ?side1 ?side2 A6.out).mono ?_); (case side1 => exact cdl (Kd.C_below HR0_0.out HB.out)); (case side2 => exact HC0_0.out); rintro e w12 ⟨rfl, hb⟩; refine ⟨_, rfl, ?_⟩; have n0_ := Aside0.mk (blk_below (g := gb233) (o := .cells #[.slice A0_0 l0_0.length c0_0] 30 (0, 0)) (bkl BK233) hb); have n1_ := Aside0.mk (below_step (bel1 HB GE233) hb); clear BK233; clear HB; have BK233 := n0_; have HB := n1_; clear n0_ n1_; (try clear hb); (try clear hb2); (try clear hk); (try clear hi)) | (go_at_call 74; (with_reducible refine (impl_IsValidContainers.calls k _ _ l1 true _ ?side1 ?side2 A8.out).mono ?_); (case side1 => exact cdl (Kd.C_below HR1.out HB.out)); (case side2 => exact HC1.out); rintro e w13 ⟨rfl, hb⟩; have n0_ := Aside0.mk (blk_below (g := gb233) (o := .cells #[.slice A0_0 l0_0.length c0_0] 30 (0, 0)) (bkl BK233) hb); have n1_ := Aside0.mk (below_step (bel1 HB GE233) hb); clear BK233; clear HB; have BK233 := n0_; have HB := n1_; clear n0_ n1_; (try clear hb); (try clear hb2); (try clear hk); (try clear hi)) | (go_at_call 60; (with_reducible refine (impl_within.calls a2 0 6 t236 _ A10.out).mono ?_); rintro e w' ⟨rfl, ⟨nd, rfl⟩⟩))
    go_meet
    case rel => exact ⟨_, (!t236), (by first | rfl | (simp; done) | (simp [*]; done)), H', ⟨by first | omega | exact Nat.le_refl _⟩, ⟨bkl BK233⟩, ⟨bel1 HB GE233⟩⟩
   ·replace c9 := Bool.eq_false_iff.mpr c9
    subst c9
    have H1 : (impl_areYard.j0 k l1 true l0_0) = some r := by rw [if_neg (show ¬ (false = true) by decide)] at H; exact H
    clear H
    have H := H1
    clear H1
    have H' := Aside0.mk H
    clear H
    have hcz14_0 : w5.cell? ⟨gb233, 0, none⟩ = some (.slice A0_0 l0_0.length c0_0) := (blk_cell BK233.out 0).trans rfl
    have hfz14_0 := blk_frozen BK233.out 0
    go_wp2_with (first | ((with_reducible refine gate_callee (f := 73) rfl ?_); refine goesL_ (some 12) rfl rfl Try.func73 (by kernel_rfl) rfl #[.agg #[.slice A0_0 l0_0.length c0_0]] rfl gmp ?_; (with_reducible refine (impl_IsValidYard.calls _ _ l0_0 true _ ?side1 ?side2 A6.out).mono ?_); (case side1 => exact cdl (Kd.C_below HR0_0.out HB.out)); (case side2 => exact HC0_0.out); rintro e w15 ⟨rfl, hb⟩; refine ⟨_, rfl, ?_⟩; have n0_ := Aside0.mk (blk_below (g := gb233) (o := .cells #[.slice A0_0 l0_0.length c0_0] 30 (0, 0)) (bkl BK233) hb); have n1_ := Aside0.mk (below_step (bel1 HB GE233) hb); clear BK233; clear HB; have BK233 := n0_; have HB := n1_; clear n0_ n1_; (try clear hb); (try clear hb2); (try clear hk); (try clear hi)) | (go_at_call 74; (with_reducible refine (impl_IsValidContainers.calls k _ _ l1 false _ ?side1 ?side2 A8.out).mono ?_); (case side1 => exact cdl (Kd.C_below HR1.out HB.out)); (case side2 => exact HC1.out); rintro e w16 ⟨rfl, hb⟩; have n0_ := Aside0.mk (blk_below (g := gb233) (o := .cells #[.slice A0_0 l0_0.length c0_0] 30 (0, 0)) (bkl BK233) hb); have n1_ := Aside0.mk (below_step (bel1 HB GE233) hb); clear BK233; clear HB; have BK233 := n0_; have HB := n1_; clear n0_ n1_; (try clear hb); (try clear hb2); (try clear hk); (try clear hi)))
    go_meet
    case rel => exact ⟨_, (true), (by first | rfl | (simp; done) | (simp [*]; done)), H', ⟨by first | omega | exact Nat.le_refl _⟩, ⟨bkl BK233⟩, ⟨bel1 HB GE233⟩⟩
  ·replace c7 := Bool.eq_false_iff.mpr c7
   subst c7
   have H1 : (impl_areYard.j0 k l1 true l0_0) = some r := by rw [if_neg (show ¬ (false = true) by decide)] at H; exact H
   clear H
   have H := H1
   clear H1
   have H' := Aside0.mk H
   clear H
   have hcz17_0 : w5.cell? ⟨gb233, 0, none⟩ = some (.slice A0_0 l0_0.length c0_0) := (blk_cell BK233.out 0).trans rfl
   have hfz17_0 := blk_frozen BK233.out 0
   go_wp2_with (first | ((with_reducible refine gate_callee (f := 73) rfl ?_); refine goesL_ (some 12) rfl rfl Try.func73 (by kernel_rfl) rfl #[.agg #[.slice A0_0 l0_0.length c0_0]] rfl gmp ?_; (with_reducible refine (impl_IsValidYard.calls _ _ l0_0 false _ ?side1 ?side2 A6.out).mono ?_); (case side1 => exact cdl (Kd.C_below HR0_0.out HB.out)); (case side2 => exact HC0_0.out); rintro e w18 ⟨rfl, hb⟩; refine ⟨_, rfl, ?_⟩; have n0_ := Aside0.mk (blk_below (g := gb233) (o := .cells #[.slice A0_0 l0_0.length c0_0] 30 (0, 0)) (bkl BK233) hb); have n1_ := Aside0.mk (below_step (bel1 HB GE233) hb); clear BK233; clear HB; have BK233 := n0_; have HB := n1_; clear n0_ n1_; (try clear hb); (try clear hb2); (try clear hk); (try clear hi)))
   go_meet
   case rel => exact ⟨_, (true), (by first | rfl | (simp; done) | (simp [*]; done)), H', ⟨by first | omega | exact Nat.le_refl _⟩, ⟨bkl BK233⟩, ⟨bel1 HB GE233⟩⟩
 case rest =>
  clear HC4
  try clear c1
  try clear p2
  try clear c5
  try clear c7
  try clear c9
  try clear hcz11_0
  try clear hcz14_0
  try clear hcz17_0
  try clear hfz11_0
  try clear hfz14_0
  try clear hfz17_0
  obtain ⟨kq, x23_3, rfl, HA, HJ3, BK233, HB⟩ := hcut
  cases kq with
  | zero => exact absurd HA.out (by simp [impl_areYard.j0])
  | succ kj3 =>
   have H := HA.out
   clear HA
   simp only [impl_areYard.j0] at H
   by_cases c19 : x23_3 = true
   ·subst c19
    have H1 : (some false) = some r := by rw [if_pos rfl] at H; exact H
    clear H
    have H := H1
    clear H1
    obtain rfl := Option.some.inj H
    go_wp2
    go_ret
    exact ⟨by first | rfl | (simp [errW_none, errW_some] <;> rfl) | (simp [*, errW_none, errW_some] <;> rfl), bel1 HB GE233⟩
   ·replace c19 := Bool.eq_false_iff.mpr c19
    subst c19
    have H1 : (impl_areYard.l0 kj3 l1 l0_0 (l0_0.length : Int) 0) = some r := by rw [if_neg (show ¬ (false = true) by decide)] at H; exact H
    clear H
    have H := H1
    clear H1
    have H' := Aside0.mk H
    clear H
    have hcz20_0 : wc.cell? ⟨gb233, 0, none⟩ = some (.slice A0_0 l0_0.length c0_0) := (blk_cell BK233.out 0).trans rfl
    have hfz20_0 := blk_frozen BK233.out 0
    go_wp2
    go_loopg [27] kj3 (fun kq v27 w' => ∃ (x27_2 : Int), v27 = .int .i64 x27_2 ∧ Aside0 (impl_areYard.l0 kq l1 l0_0 (l0_0.length : Int) x27_2 = some r) ∧ Aside0 (kq ≤ kj3) ∧ Aside0 (w'.heap[gb233]? = some (.cells #[(.slice A0_0 l0_0.length c0_0)] 30 (0, 0))) ∧ Aside0 (Below w.heap.size w w'))
    case atStart => exact ⟨(0), (by first | rfl | (simp; done) | (simp [*]; done)), H', ⟨Nat.le_refl _⟩, ⟨bkl BK233⟩, ⟨bel1 HB GE233⟩⟩
    case round =>
     clear H'
     try clear c1
     try clear p2
     try clear c5
     try clear c7
     try clear c9
     try clear c19
     try clear hcz11_0
     try clear hcz14_0
     try clear hcz17_0
     try clear hcz20_0
     try clear hfz11_0
     try clear hfz14_0
     try clear hfz17_0
     try clear hfz20_0
     try clear p2
     obtain ⟨x27_2, rfl, HA, HK2, BK233, HB⟩ := hrel
     cases gk with
     | zero => exact absurd HA.out (by simp [impl_areYard.l0])
     | succ k2 =>
      have H := HA.out
      clear HA
      simp only [impl_areYard.l0] at H
      by_cases c21 : x27_2 < (l0_0.length : Int)
      ·rw [if_pos c21] at H
       have c21b0 : decide (x27_2 < (l0_0.length : Int)) = true := decide_eq_true c21
       clear c21
       by_cases c22 : 0 ≤ x27_2
       ·rw [if_pos c22] at H
        have c22b0 : decide (0 ≤ x27_2) = true := decide_eq_true c22
        clear c22
        by_cases c23 : x27_2 < (l0_0.length : Int)
        ·rw [if_pos c23] at H
         have c23b0 : decide (x27_2 < (l0_0.length : Int)) = true := decide_eq_true c23
         clear c23
         have H' := Aside0.mk H
         clear H
         have p237 : 0 ≤ (x27_2 : Int) := oda
         have q237 : x27_2 < (l0_0.length : Int) := oda
         obtain ⟨ad237, A237_0, c237_0, e237, hx237_0, hl237_0, hi237_0⟩ := at_L1 HR0_0.out x27_2 p237 q237
         cases e237
         replace hx237_0 := cel HB hx237_0
         have HR237_0 := Aside0.mk hi237_0
         have HC237_0 := Aside0.mk hl237_0
         clear hi237_0 hl237_0
         replace p237 := eq_true p237
         replace q237 := eq_true q237
         go_wp2
         go_loopg [33] k2 (fun kq v33 w' => ∃ (x33_3 : Int), v33 = .int .i64 x33_3 ∧ Aside0 (impl_areYard.l1 kq l1 l0_0 (l0_0.length : Int) x27_2 (rd_L1 l0_0 x27_2) ((rd_L1 l0_0 x27_2).length : Int) x33_3 = some r) ∧ Aside0 (kq ≤ k2) ∧ Aside0 (w'.heap[gb233]? = some (.cells #[(.slice (some ad237) l0_0.length c0_0)] 30 (0, 0))) ∧ Aside0 (Below w.heap.size w w'))
         case atStart => exact ⟨(0), (by first | rfl | (simp; done) | (simp [*]; done)), H', ⟨Nat.le_refl _⟩, ⟨bkl BK233⟩, ⟨bel1 HB GE233⟩⟩
         case round =>
          clear H'
          try clear c1
          try clear c2
          try clear p2
          try clear q2
          try clear hx2
          try clear c5
          try clear c7
          try clear c9
          try clear c19
          try clear c21
          try clear c21b0
          try clear c22
          try clear c22b0
          try clear c23
          try clear c23b0
          try clear p23
          try clear q23
          try clear hx23
          try clear hcz11_0
          try clear hcz14_0
          try clear hcz17_0
          try clear hcz20_0
          try clear hfz11_0
          try clear hfz14_0
          try clear hfz17_0
          try clear hfz20_0
          try clear hx237_0
          try clear p2
          try clear p237
          try clear q237
          obtain ⟨x33_3, rfl, HA, HK3, BK233, HB⟩ := hrel
          cases gk with
          | zero => exact absurd HA.out (by simp [impl_areYard.l1])
          | succ k3 =>
           have H := HA.out
           clear HA
           simp only [impl_areYard.l1] at H
           by_cases c24 : x33_3 < ((rd_L1 l0_0 x27_2).length : Int)
           ·rw [if_pos c24] at H
            have c24b0 : decide (x33_3 < ((rd_L1 l0_0 x27_2).length : Int)) = true := decide_eq_true c24
            clear c24
            by_cases c25 : 0 ≤ x33_3
            ·rw [if_pos c25] at H
             have c25b0 : decide (0 ≤ x33_3) = true := decide_eq_true c25
             clear c25
             by_cases c26 : x33_3 < ((rd_L1 l0_0 x27_2).length : Int)
             ·rw [if_pos c26] at H
              have c26b0 : decide (x33_3 < ((rd_L1 l0_0 x27_2).length : Int)) = true := decide_eq_true c26
              clear c26
              by_cases c27 : (rd (rd_L1 l0_0 x27_2) x33_3) > (l1.length : Int)
              ·rw [if_pos c27] at H
               have c27b0 : decide ((l1.length : Int) < (rd (rd_L1 l0_0 x27_2) x33_3)) = true := decide_eq_true c27
               clear c27
               obtain rfl := Option.some.inj H
               have p238 : 0 ≤ (x33_3 : Int) := oda
               have q238 : x33_3 < ((rd_L1 l0_0 x27_2).length : Int) := oda
               obtain ⟨ad238, e238, hx238_0⟩ := Kd.at_int HR237_0.out x33_3 p238 q238
               cases e238
               replace hx238_0 := cel HB hx238_0
               replace p238 := eq_true p238
               replace q238 := eq_true q238
               go_wp2
               go_ret
               exact ⟨by first | rfl | (simp [errW_none, errW_some] <;> rfl) | (simp [*, errW_none, errW_some] <;> rfl), bel1 HB GE233⟩
              ·rw [if_neg c27] at H
               have c27b0 : decide ((l1.length : Int) < (rd (rd_L1 l0_0 x27_2) x33_3)) = false := decide_eq_false c27
               clear c27
               have H' := Aside0.mk H
               clear H
               have p238 : 0 ≤ (x33_3 : Int) := oda
               have q238 : x33_3 < ((rd_L1 l0_0 x27_2).length : Int) := oda
               obtain ⟨ad238, e238, hx238_0⟩ := Kd.at_int HR237_0.out x33_3 p238 q238
               cases e238
               replace hx238_0 := cel HB hx238_0
               replace p238 := eq_true p238
               replace q238 := eq_true q238
               go_wp2
               go_roundg k3
               case measure => have := HJ3.out; have := HK2.out; have := HK3.out; omega
               case rel => exact ⟨(wrap64 (x33_3 + 1)), (by first | rfl | (simp; done) | (simp [*]; done)), H', ⟨by have := HJ3.out; have := HK2.out; have := HK3.out; omega⟩, ⟨bkl BK233⟩, ⟨bel1 HB GE233⟩⟩
             ·rw [if_neg c26] at H
              exact absurd H (by simp)
            ·rw [if_neg c25] at H
             exact absurd H (by simp)
           ·rw [if_neg c24] at H
            have c24b0 : decide (x33_3 < ((rd_L1 l0_0 x27_2).length : Int)) = false := decide_eq_false c24
            clear c24
            have H' := Aside0.mk H
            clear H
            go_wp2
            go_roundg k3
            case measure => have := HJ3.out; have := HK2.out; have := HK3.out; omega
            case rel => exact ⟨(wrap64 (x27_2 + 1)), (by first | rfl | (simp; done) | (simp [*]; done)), H', ⟨by have := HJ3.out; have := HK2.out; have := HK3.out; omega⟩, ⟨bkl BK233⟩, ⟨bel1 HB GE233⟩⟩
        ·rw [if_neg c23] at H
         exact absurd H (by simp)
       ·rw [if_neg c22] at H
        exact absurd H (by simp)
      ·rw [if_neg c21] at H
       have c21b0 : decide (x27_2 < (l0_0.length : Int)) = false := decide_eq_false c21
       clear c21
       obtain rfl := Option.some.inj H
       go_wp2
       go_ret
       exact ⟨by first | rfl | (simp [errW_none, errW_some] <;> rfl) | (simp [*, errW_none, errW_some] <;> rfl), bel1 HB GE233⟩

end Go.Proofs.Ytmpmcckjpkijnaa.P
