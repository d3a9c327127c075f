-- Written by a program of this session over the translation (a variant of the printer, see wip/gen); Lean checks it.
import Derived.Test.YtkahifpcimoogaaPx0
import Derived.Test.YtkahifpcimoogaaPx5
import Derived.Test.YtkahifpcimoogaaPx6
import Derived.Lib.SliceRun
namespace Go.Proofs.Ytkahifpcimoogaa.P
open Go.RowKit Go.Proofs.YtkahifpcimoogaaW.PrintWords Go.Proofs.YtkahifpcimoogaaW.PrintLast Go.Proofs.YtkahifpcimoogaaW.PrintMore
attribute [local go_sem] Go.Proofs.Ytkahifpcimoogaa.V.isSome_setCell max2_int min2_int max_two min_two max_three min_three max_four min_four   -- for this text's walks alone
set_option linter.unusedVariables false
set_option linter.unusedSimpArgs false

/-! ### impl_BestSwap: function 12 -/
theorem impl_BestSwap.some_ {e : Nat} {w : World} {base : Nat} {ok : Nat → Prop} {v : Value} {xs : List Int} (h : Kd.R (Kd.int .i64) e w base ok v xs) (hx : ¬ xs = []) : ∃ ad n c, v = .slice (some ad) n c := by
 obtain ⟨_, inner, ho, hr⟩ := h
 rcases ho.2 with ⟨_, h0⟩ | ⟨g, cap, cur, rfl, _⟩
 ·exact absurd (List.length_eq_zero_iff.1 h0) hx
 ·exact ⟨_, _, _, rfl⟩
mutual
def impl_BestSwap.j0 : Nat → List (S38) → Bool → Option (List Int × Int × Bool)
 | 0, _, _ => none
 | k + 1, x0, x22 => if x22 = true then (some (([] : List Int), 0, false)) else ((impl_moments.f k x0).bind fun bt222 => (impl_BestSwap.l0 k x0 bt222.2.1 ([] : List Int) 0 x0 (x0.length : Int) 0))
def impl_BestSwap.l0 : Nat → List (S38) → Int → List Int → Int → List (S38) → Int → Int → Option (List Int × Int × Bool)
 | 0, _, _, _, _, _, _, _ => none
 | k + 1, x0, x6, x8, x9, x29, x30, x31 => if x31 < x30 then (if 0 ≤ x31 then (if x31 < (x29.length : Int) then (impl_BestSwap.l1 k x0 x6 x8 x9 x31 (wrap64 (x31 + 1)) x29 x30 x31 ((rd_T38 x29 x31).f0) ((rd_T38 x29 x31).f1) ((rd_T38 x29 x31).f2)) else (none)) else (none)) else (some (x8, x9, true))
def impl_BestSwap.l1 : Nat → List (S38) → Int → List Int → Int → Int → Int → List (S38) → Int → Int → Int → Int → Int → Option (List Int × Int × Bool)
 | 0, _, _, _, _, _, _, _, _, _, _, _, _ => none
 | k + 1, x0, x6, x8, x9, x10, x12, x29, x30, x31, x227000, x227001, x227002 => if x12 < (x0.length : Int) then (if 0 ≤ x12 then ((impl_size.f (wrap64 (x6 + (wrap64 ((wrap64 (x227000 - ((rd_T38 x0 x12).f0))) * (wrap64 (((rd_T38 x0 x12).f1) - x227001))))))).bind fun t229 => (if (x8.length : Int) = 0 then (impl_BestSwap.l1 k x0 x6 (([x10, x12] : List Int)) t229 x10 (wrap64 (x12 + 1)) x29 x30 x31 x227000 x227001 x227002) else (if t229 < x9 then (impl_BestSwap.l1 k x0 x6 (([x10, x12] : List Int)) t229 x10 (wrap64 (x12 + 1)) x29 x30 x31 x227000 x227001 x227002) else (impl_BestSwap.l1 k x0 x6 x8 x9 x10 (wrap64 (x12 + 1)) x29 x30 x31 x227000 x227001 x227002)))) else (none)) else (impl_BestSwap.l0 k x0 x6 x8 x9 x29 x30 (wrap64 (x31 + 1)))
end
def impl_BestSwap.f (k : Nat) (l0 : List (S38)) : Option (List Int × Int × Bool) := (impl_IsValidLoads.f k l0).bind fun t221 => (if t221 = true then (impl_BestSwap.j0 k l0 (decide ((l0.length : Int) < 2))) else (impl_BestSwap.j0 k l0 true))
theorem impl_BestSwap.mono_l : ∀ k, (∀ y0 y1, LeO (impl_BestSwap.j0 k y0 y1) (impl_BestSwap.j0 (k + 1) y0 y1)) ∧ (∀ y0 y1 y2 y3 y4 y5 y6, LeO (impl_BestSwap.l0 k y0 y1 y2 y3 y4 y5 y6) (impl_BestSwap.l0 (k + 1) y0 y1 y2 y3 y4 y5 y6)) ∧ (∀ y0 y1 y2 y3 y4 y5 y6 y7 y8 y9 y10 y11, LeO (impl_BestSwap.l1 k y0 y1 y2 y3 y4 y5 y6 y7 y8 y9 y10 y11) (impl_BestSwap.l1 (k + 1) y0 y1 y2 y3 y4 y5 y6 y7 y8 y9 y10 y11))
 | 0 => ⟨fun _ _ r h => by simp [impl_BestSwap.j0] at h, fun _ _ _ _ _ _ _ r h => by simp [impl_BestSwap.l0] at h, fun _ _ _ _ _ _ _ _ _ _ _ _ r h => by simp [impl_BestSwap.l1] at h⟩
 | k + 1 => by
  obtain ⟨ih0, ih1, ih2⟩ := impl_BestSwap.mono_l k
  refine ⟨?_, ?_, ?_⟩
  ·intro y0 y1
   unfold impl_BestSwap.j0
   repeat' first
   | (with_reducible exact ih0 _ _)
   | (with_reducible exact ih1 _ _ _ _ _ _ _)
   | (with_reducible exact ih2 _ _ _ _ _ _ _ _ _ _ _ _)
   | (with_reducible exact impl_IsValidLoads.mono _ _)
   | (with_reducible exact impl_moments.mono _ _)
   | (with_reducible exact LeO.refl _)
   | (with_reducible exact LeO.none _)
   | (with_reducible refine LeO.ite ?_ ?_)
   | (with_reducible refine LeO.bind ?_ (fun _ => ?_))
   | exact ih0 _ _
   | exact ih1 _ _ _ _ _ _ _
   | exact ih2 _ _ _ _ _ _ _ _ _ _ _ _
   | exact impl_IsValidLoads.mono _ _
   | exact impl_moments.mono _ _
   | exact LeO.none _
   | refine LeO.ite ?_ ?_
   | refine LeO.bind ?_ (fun _ => ?_)
  ·intro y0 y1 y2 y3 y4 y5 y6
   unfold impl_BestSwap.l0
   repeat' first
   | (with_reducible exact ih0 _ _)
   | (with_reducible exact ih1 _ _ _ _ _ _ _)
   | (with_reducible exact ih2 _ _ _ _ _ _ _ _ _ _ _ _)
   | (with_reducible exact impl_IsValidLoads.mono _ _)
   | (with_reducible exact impl_moments.mono _ _)
   | (with_reducible exact LeO.refl _)
   | (with_reducible exact LeO.none _)
   | (with_reducible refine LeO.ite ?_ ?_)
   | (with_reducible refine LeO.bind ?_ (fun _ => ?_))
   | exact ih0 _ _
   | exact ih1 _ _ _ _ _ _ _
   | exact ih2 _ _ _ _ _ _ _ _ _ _ _ _
   | exact impl_IsValidLoads.mono _ _
   | exact impl_moments.mono _ _
   | exact LeO.none _
   | refine LeO.ite ?_ ?_
   | refine LeO.bind ?_ (fun _ => ?_)
  ·intro y0 y1 y2 y3 y4 y5 y6 y7 y8 y9 y10 y11
   unfold impl_BestSwap.l1
   repeat' first
   | (with_reducible exact ih0 _ _)
   | (with_reducible exact ih1 _ _ _ _ _ _ _)
   | (with_reducible exact ih2 _ _ _ _ _ _ _ _ _ _ _ _)
   | (with_reducible exact impl_IsValidLoads.mono _ _)
   | (with_reducible exact impl_moments.mono _ _)
   | (with_reducible exact LeO.refl _)
   | (with_reducible exact LeO.none _)
   | (with_reducible refine LeO.ite ?_ ?_)
   | (with_reducible refine LeO.bind ?_ (fun _ => ?_))
   | exact ih0 _ _
   | exact ih1 _ _ _ _ _ _ _
   | exact ih2 _ _ _ _ _ _ _ _ _ _ _ _
   | exact impl_IsValidLoads.mono _ _
   | exact impl_moments.mono _ _
   | exact LeO.none _
   | refine LeO.ite ?_ ?_
   | refine LeO.bind ?_ (fun _ => ?_)
theorem impl_BestSwap.mono : ∀ a0 k, LeO (impl_BestSwap.f k a0) (impl_BestSwap.f (k + 1) a0) := by
 intro a0 k
 obtain ⟨ih0, ih1, ih2⟩ := impl_BestSwap.mono_l k
 unfold impl_BestSwap.f
 repeat' first
   | (with_reducible exact ih0 _ _)
   | (with_reducible exact ih1 _ _ _ _ _ _ _)
   | (with_reducible exact ih2 _ _ _ _ _ _ _ _ _ _ _ _)
   | (with_reducible exact impl_IsValidLoads.mono _ _)
   | (with_reducible exact impl_moments.mono _ _)
   | (with_reducible exact LeO.refl _)
   | (with_reducible exact LeO.none _)
   | (with_reducible refine LeO.ite ?_ ?_)
   | (with_reducible refine LeO.bind ?_ (fun _ => ?_))
   | exact ih0 _ _
   | exact ih1 _ _ _ _ _ _ _
   | exact ih2 _ _ _ _ _ _ _ _ _ _ _ _
   | exact impl_IsValidLoads.mono _ _
   | exact impl_moments.mono _ _
   | exact LeO.none _
   | refine LeO.ite ?_ ?_
   | refine LeO.bind ?_ (fun _ => ?_)
set_option maxHeartbeats 8000000 in
set_option maxRecDepth 100000 in
theorem impl_BestSwap.calls (k : Nat) (A0 : Option Addr) (c0 : Nat) (l0 : List (S38)) (r1 : List Int) (r2 : Int) (r3 : Bool) (w : World) (hr0 : Kd.C k38 w A0 l0.length l0) (hc0 : l0.length ≤ c0) (h : impl_BestSwap.f k l0 = some (r1, r2, r3)) :
  Calls Try.prog 12 #[.slice A0 l0.length c0] w fun e w' => ∃ v0_ : Value, e = .returned (.tuple #[v0_, .int .i64 r2, .bool r3]) ∧ Kd.R (Kd.int .i64) 3 w' w.heap.size (fun _ => True) v0_ r1 ∧ Below w.heap.size w w' := by
 have hq_ := fun (w : World) (a : Option Addr) (n c n' c' : Nat) => Go.Lib.run_eql_slice_nil (P := Try.prog) w _ _ a n c n' c' Try.underlying33
 have hu38 := Try.underlying38
 have HR0 := Aside0.mk hr0
 have HC0 := Aside0.mk hc0
 clear hr0 hc0
 have HB := Aside0.mk (Below.refl w.heap.size w)
 have H : ((impl_IsValidLoads.f k l0).bind fun t221 => (if t221 = true then (impl_BestSwap.j0 k l0 (decide ((l0.length : Int) < 2))) else (impl_BestSwap.j0 k l0 true))) = some (r1, r2, r3) := h
 clear h
 have HC2 := Aside0.mk H
 clear H
 go_enter Try.func12, Try.ntmps12
 go_upto_region 1 with (fail)
 go_cut [22] (fun v22 wc => ∃ (kq : Nat) (x22_1 : Bool), v22 = .bool x22_1 ∧ Aside0 (impl_BestSwap.j0 kq l0 x22_1 = some (r1, r2, r3)) ∧ Aside0 (kq ≤ k) ∧ Aside0 (Below w.heap.size w wc))
 case first =>
  have H := HC2.out
  clear HC2
  replace H := Option.bind_eq_some_iff.mp H
  obtain ⟨t221, A30, H⟩ := H
  replace H : (if t221 = true then (impl_BestSwap.j0 k l0 (decide ((l0.length : Int) < 2))) else (impl_BestSwap.j0 k l0 true)) = some (r1, r2, r3) := H
  have A3 := Aside0.mk A30
  clear A30
  by_cases c4 : t221 = true
  ·subst c4
   have H1 : (impl_BestSwap.j0 k l0 (decide ((l0.length : Int) < 2))) = some (r1, r2, r3) := by rw [if_pos rfl] at H; exact H
   clear H
   have H := H1
   clear H1
   have H' := Aside0.mk H
   clear H
   go_wp2_with (first | ((with_reducible refine gate_callee (f := 22) rfl ?_); refine goesL_ (some 16) rfl rfl Try.func22 (by kernel_rfl) rfl #[.slice A0 l0.length c0] rfl gmp ?_; (with_reducible refine (impl_IsValidLoads.calls k _ _ l0 true _ ?side1 ?side2 A3.out).mono ?_); (case side1 => exact cdl (Kd.C_below HR0.out HB.out)); (case side2 => exact HC0.out); rintro e w5 ⟨rfl, hb⟩; refine ⟨_, rfl, ?_⟩; have n0_ := Aside0.mk (below_step (bel HB) hb); clear HB; have HB := n0_; clear n0_; (try clear hb); (try clear hb2); (try clear hk); (try clear hi)))
   go_meet
   case rel => exact ⟨_, (decide ((l0.length : Int) < 2)), (by first | rfl | (simp; done) | (simp [*]; done)), H', ⟨by first | omega | exact Nat.le_refl _⟩, ⟨bel HB⟩⟩
  ·replace c4 := Bool.eq_false_iff.mpr c4
   subst c4
   have H1 : (impl_BestSwap.j0 k l0 true) = some (r1, r2, r3) := by rw [if_neg (show ¬ (false = true) by decide)] at H; exact H
   clear H
   have H := H1
   clear H1
   have H' := Aside0.mk H
   clear H
   go_wp2_with (first | ((with_reducible refine gate_callee (f := 22) rfl ?_); refine goesL_ (some 16) rfl rfl Try.func22 (by kernel_rfl) rfl #[.slice A0 l0.length c0] rfl gmp ?_; (with_reducible refine (impl_IsValidLoads.calls k _ _ l0 false _ ?side1 ?side2 A3.out).mono ?_); (case side1 => exact cdl (Kd.C_below HR0.out HB.out)); (case side2 => exact HC0.out); rintro e w6 ⟨rfl, hb⟩; refine ⟨_, rfl, ?_⟩; have n0_ := Aside0.mk (below_step (bel HB) hb); clear HB; have HB := n0_; clear n0_; (try clear hb); (try clear hb2); (try clear hk); (try clear hi)))
   go_meet
   case rel => exact ⟨_, (true), (by first | rfl | (simp; done) | (simp [*]; done)), H', ⟨by first | omega | exact Nat.le_refl _⟩, ⟨bel HB⟩⟩
 case rest =>
  clear HC2
  try clear c1
  try clear c2
  try clear p2
  try clear c4
  obtain ⟨kq, x22_1, rfl, HA, HJ1, HB⟩ := hcut
  cases kq with
  | zero => exact absurd HA.out (by simp [impl_BestSwap.j0])
  | succ kj1 =>
   have H := HA.out
   clear HA
   simp only [impl_BestSwap.j0] at H
   by_cases c7 : x22_1 = true
   ·subst c7
    have H1 : (some (([] : List Int), 0, false)) = some (r1, r2, r3) := by rw [if_pos rfl] at H; exact H
    clear H
    have H := H1
    clear H1
    simp only [Option.some.injEq, Prod.mk.injEq] at H
    obtain ⟨rfl, rfl, rfl⟩ := H
    go_wp2
    go_ret3
    exact ⟨_, by first | rfl | (simp [errW_none, errW_some] <;> rfl) | (simp [*, errW_none, errW_some] <;> rfl), by first | exact Kd.R_nil _ _ _ _ _ | exact Kd.N_nil _ _ _ _ _ | exact Kd.V_nil _ _ _ _ _ | exact Kd.Q_nil _ _ _ _ _ | exact Kd.S_nil _ _ _ _ _, bel HB⟩
   ·replace c7 := Bool.eq_false_iff.mpr c7
    subst c7
    have H1 : ((impl_moments.f kj1 l0).bind fun bt222 => (impl_BestSwap.l0 kj1 l0 bt222.2.1 ([] : List Int) 0 l0 (l0.length : Int) 0)) = some (r1, r2, r3) := by rw [if_neg (show ¬ (false = true) by decide)] at H; exact H
    clear H
    have H := H1
    clear H1
    replace H := Option.bind_eq_some_iff.mp H
    obtain ⟨⟨t222, t223, t224⟩, A80, H⟩ := H
    replace H : (impl_BestSwap.l0 kj1 l0 t223 ([] : List Int) 0 l0 (l0.length : Int) 0) = some (r1, r2, r3) := H
    have A8 := Aside0.mk A80
    clear A80
    have H' := Aside0.mk H
    clear H
    go_wp2_with (first | ((with_reducible refine gate_callee (f := 34) rfl ?_); refine goesL_ (some 25) rfl rfl Try.func34 (by kernel_rfl) rfl #[.slice A0 l0.length c0] rfl gmp ?_; (with_reducible refine (impl_moments.calls kj1 _ _ l0 t222 t223 t224 _ ?side1 ?side2 A8.out).mono ?_); (case side1 => exact cdl (Kd.C_below HR0.out HB.out)); (case side2 => exact HC0.out); rintro e w9 ⟨rfl, hb⟩; refine ⟨_, rfl, ?_⟩; have n0_ := Aside0.mk (below_step (bel HB) hb); clear HB; have HB := n0_; clear n0_; (try clear hb); (try clear hb2); (try clear hk); (try clear hi)))
    go_loopg [8, 9, 31] kj1 (fun kq v8 v9 v31 w' => ∃ (x8_2 : List Int) (x9_2 : Int) (x31_2 : Int), v9 = .int .i64 x9_2 ∧ v31 = .int .i64 x31_2 ∧ Aside0 (impl_BestSwap.l0 kq l0 t223 x8_2 x9_2 l0 (l0.length : Int) x31_2 = some (r1, r2, r3)) ∧ Aside0 (kq ≤ kj1) ∧ Aside0 (x8_2 = [] → v8 = .slice none 0 0) ∧ Aside0 (Kd.R (Kd.int .i64) 3 w' w.heap.size (fun _ => True) v8 x8_2) ∧ Aside0 (Below w.heap.size w w'))
    case atStart => exact ⟨(([] : List Int)), (0), (0), (by first | rfl | (simp; done) | (simp [*]; done)), (by first | rfl | (simp; done) | (simp [*]; done)), H', ⟨Nat.le_refl _⟩, ⟨fun _ => rfl⟩, ⟨by first | exact Kd.R_nil _ _ _ _ _ | exact Kd.N_nil _ _ _ _ _ | exact Kd.V_nil _ _ _ _ _ | exact Kd.Q_nil _ _ _ _ _ | exact Kd.S_nil _ _ _ _ _⟩, ⟨bel HB⟩⟩
    case round =>
     clear H'
     try clear c1
     try clear c2
     try clear p2
     try clear c3
     try clear c4
     try clear c7
     try clear p2
     obtain ⟨x8_2, x9_2, x31_2, rfl, rfl, HA, HK2, NIL8, HO_8, HB⟩ := hrel
     cases gk with
     | zero => exact absurd HA.out (by simp [impl_BestSwap.l0])
     | succ k2 =>
      have H := HA.out
      clear HA
      simp only [impl_BestSwap.l0] at H
      by_cases c10 : x31_2 < (l0.length : Int)
      ·rw [if_pos c10] at H
       have c10b0 : decide (x31_2 < (l0.length : Int)) = true := decide_eq_true c10
       clear c10
       by_cases c11 : 0 ≤ x31_2
       ·rw [if_pos c11] at H
        have c11b0 : decide (0 ≤ x31_2) = true := decide_eq_true c11
        clear c11
        by_cases c12 : x31_2 < (l0.length : Int)
        ·rw [if_pos c12] at H
         have c12b0 : decide (x31_2 < (l0.length : Int)) = true := decide_eq_true c12
         clear c12
         have H' := Aside0.mk H
         clear H
         have p225 : 0 ≤ (x31_2 : Int) := oda
         have q225 : x31_2 < (l0.length : Int) := oda
         obtain ⟨ad225, e225, hx225_0, hx225_1, hx225_2⟩ := at_T38 HR0.out x31_2 p225 q225
         cases e225
         replace hx225_0 := cel HB hx225_0
         replace hx225_1 := cel HB hx225_1
         replace hx225_2 := cel HB hx225_2
         replace p225 := eq_true p225
         replace q225 := eq_true q225
         go_wp2_with (first | ((with_reducible refine gate_dst (N := 11) rfl ?_); (try (refine gate_guard (by rfl) ?_; dsimp only)); refine box_event ?hg (N := 11) ?hd (cs := #[.int .i64 0, .int .i64 0, .int .i64 0]) (t := 38) ?hr ?_; (case hd => rfl); (case hg => rfl); (case hr => first | (go_simp; done) | (go_simp; rfl)); intro gb226 hg w13 hbox hb; have n0_ := Aside0.mk (Kd.R_below (rdl HO_8) hb); have n1_ := Aside0.mk (below_step (bel HB) hb); have n2_ := Aside0.mk (hbox); have n3_ := Aside0.mk ((by rw [hg]; exact (below_size (bel HB)) : w.heap.size ≤ gb226)); have n4_ := Aside0.mk ((by rw [hg]; exact (below_size (bel HB)) : w.heap.size ≤ gb226)); clear HO_8; clear HB; have HO_8 := n0_; have HB := n1_; have BK226 := n2_; have GW226 := n3_; have GE226 := n4_; clear n0_ n1_ n2_ n3_ n4_; clear hb hbox hg; have hcz14_0 : w13.cell? ⟨gb226, 0, none⟩ = some (.int .i64 0) := (blk_cell BK226.out 0).trans rfl; have hcz14_1 : w13.cell? ⟨gb226, 1, none⟩ = some (.int .i64 0) := (blk_cell BK226.out 1).trans rfl; have hcz14_2 : w13.cell? ⟨gb226, 2, none⟩ = some (.int .i64 0) := (blk_cell BK226.out 2).trans rfl; have hfz14_0 := blk_frozen BK226.out 0; have hfz14_1 := blk_frozen BK226.out 1; have hfz14_2 := blk_frozen BK226.out 2))
         go_loopg [8, 9, 12] k2 (fun kq v8 v9 v12 w' => ∃ (x8_3 : List Int) (x9_3 : Int) (x12_3 : Int), v9 = .int .i64 x9_3 ∧ v12 = .int .i64 x12_3 ∧ Aside0 (impl_BestSwap.l1 kq l0 t223 x8_3 x9_3 x31_2 x12_3 l0 (l0.length : Int) x31_2 ((rd_T38 l0 x31_2).f0) ((rd_T38 l0 x31_2).f1) ((rd_T38 l0 x31_2).f2) = some (r1, r2, r3)) ∧ Aside0 (kq ≤ k2) ∧ Aside0 (x8_3 = [] → v8 = .slice none 0 0) ∧ Aside0 (Kd.R (Kd.int .i64) 3 w' w.heap.size (fun _ => True) v8 x8_3) ∧ Aside0 (w'.heap[gb226]? = some (.cells #[.int .i64 ((rd_T38 l0 x31_2).f0), .int .i64 ((rd_T38 l0 x31_2).f1), .int .i64 ((rd_T38 l0 x31_2).f2)] 38 (0, 0))) ∧ Aside0 (Below w.heap.size w w'))
         case atStart => exact ⟨(x8_2), (x9_2), (wrap64 (x31_2 + 1)), (by first | rfl | (simp; done) | (simp [*]; done)), (by first | rfl | (simp; done) | (simp [*]; done)), H', ⟨Nat.le_refl _⟩, NIL8, ⟨by (with_reducible repeat (first | apply Kd.R_alloc | apply Kd.R_drewN | apply Kd.R_drew)); exact Kd.R_mono (Kd.R_far (p := ⟨gb226, 2, none⟩) (Kd.R_far (p := ⟨gb226, 1, none⟩) (Kd.R_far (p := ⟨gb226, 0, none⟩) (Kd.R_types HO_8.out BK226.out (by decide)) (fun _ hk => hk.2) (.int .i64 ((rd_T38 l0 x31_2).f0))) (fun _ hk => hk.2) (.int .i64 ((rd_T38 l0 x31_2).f1))) (fun _ hk => hk.2) (.int .i64 ((rd_T38 l0 x31_2).f2))) (fun _ hk => trivial)⟩, ⟨by (with_reducible repeat (first | refine blk_drewN ?_ _ | refine blk_drew ?_ | refine blk_alloc ?_ _)); refine blk_put (cs := #[.int .i64 ((rd_T38 l0 x31_2).f0), .int .i64 ((rd_T38 l0 x31_2).f1), .int .i64 0]) ?_ 2 _ rfl; (with_reducible repeat (first | refine blk_drewN ?_ _ | refine blk_drew ?_ | refine blk_alloc ?_ _)); refine blk_put (cs := #[.int .i64 ((rd_T38 l0 x31_2).f0), .int .i64 0, .int .i64 0]) ?_ 1 _ rfl; (with_reducible repeat (first | refine blk_drewN ?_ _ | refine blk_drew ?_ | refine blk_alloc ?_ _)); refine blk_put (cs := #[.int .i64 0, .int .i64 0, .int .i64 0]) ?_ 0 _ rfl; (with_reducible repeat (first | refine blk_drewN ?_ _ | refine blk_drew ?_ | refine blk_alloc ?_ _)); exact BK226.out⟩, ⟨bel1 HB GE226⟩⟩
         case round =>
          clear H'
          try clear c1
          try clear c2
          try clear p2
          try clear q2
          try clear hx2
          try clear c3
          try clear c4
          try clear p6
          try clear c7
          try clear c10
          try clear c10b0
          try clear c11
          try clear c11b0
          try clear c12
          try clear c12b0
          try clear hcz14_0
          try clear hcz14_1
          try clear hcz14_2
          try clear hfz14_0
          try clear hfz14_1
          try clear hfz14_2
          try clear hx225_0
          try clear hx225_1
          try clear hx225_2
          try clear p2
          try clear p225
          try clear q225
          obtain ⟨x8_3, x9_3, x12_3, rfl, rfl, HA, HK3, NIL8, HO_8, BK226, HB⟩ := hrel
          cases gk with
          | zero => exact absurd HA.out (by simp [impl_BestSwap.l1])
          | succ k3 =>
           have H := HA.out
           clear HA
           simp only [impl_BestSwap.l1] at H
           by_cases c15 : x12_3 < (l0.length : Int)
           ·rw [if_pos c15] at H
            have c15b0 : decide (x12_3 < (l0.length : Int)) = true := decide_eq_true c15
            clear c15
            by_cases c16 : 0 ≤ x12_3
            ·rw [if_pos c16] at H
             have c16b0 : decide (0 ≤ x12_3) = true := decide_eq_true c16
             clear c16
             replace H := Option.bind_eq_some_iff.mp H
             obtain ⟨t229, A170, H⟩ := H
             replace H : (if (x8_3.length : Int) = 0 then (impl_BestSwap.l1 k3 l0 t223 (([x31_2, x12_3] : List Int)) t229 x31_2 (wrap64 (x12_3 + 1)) l0 (l0.length : Int) x31_2 ((rd_T38 l0 x31_2).f0) ((rd_T38 l0 x31_2).f1) ((rd_T38 l0 x31_2).f2)) else (if t229 < x9_3 then (impl_BestSwap.l1 k3 l0 t223 (([x31_2, x12_3] : List Int)) t229 x31_2 (wrap64 (x12_3 + 1)) l0 (l0.length : Int) x31_2 ((rd_T38 l0 x31_2).f0) ((rd_T38 l0 x31_2).f1) ((rd_T38 l0 x31_2).f2)) else (impl_BestSwap.l1 k3 l0 t223 x8_3 x9_3 x31_2 (wrap64 (x12_3 + 1)) l0 (l0.length : Int) x31_2 ((rd_T38 l0 x31_2).f0) ((rd_T38 l0 x31_2).f1) ((rd_T38 l0 x31_2).f2)))) = some (r1, r2, r3) := H
             have A17 := Aside0.mk A170
             clear A170
             by_cases c18 : (x8_3.length : Int) = 0
             ·rw [if_pos c18] at H
              have c18b0 : ((x8_3.length : Int) == 0) = true := beq_iff_eq.mpr c18
              have c18b1 : ((x8_3.length : Int) != 0) = false := bne_eq_false_iff_eq.mpr c18
              have hz_ := NIL8.out (List.length_eq_zero_iff.1 (by omega))
              subst hz_
              clear c18
              obtain ⟨y230, hy230⟩ : ∃ y_ : List Int, y_ = (([x31_2, x12_3] : List Int)) := ⟨_, rfl⟩
              replace H : (impl_BestSwap.l1 k3 l0 t223 y230 t229 x31_2 (wrap64 (x12_3 + 1)) l0 (l0.length : Int) x31_2 ((rd_T38 l0 x31_2).f0) ((rd_T38 l0 x31_2).f1) ((rd_T38 l0 x31_2).f2)) = some (r1, r2, r3) := by first | (rw [hy230]; with_reducible exact H) | (have H2_ := (Option.bind_some _ _).symm.trans H; rw [hy230]; with_reducible exact H2_) | (have H2_ := (Option.bind_some _ _).symm.trans H; with_reducible exact H2_) | with_reducible exact H | (rw [hy230]; exact H) | exact H
              have Ny230 := Aside0.mk hy230
              clear hy230
              have H' := Aside0.mk H
              clear H
              have p227 : 0 ≤ (x12_3 : Int) := oda
              have q227 : x12_3 < (l0.length : Int) := oda
              obtain ⟨ad227, e227, hx227_0, hx227_1, hx227_2⟩ := at_T38 HR0.out x12_3 p227 q227
              obtain rfl : ad225 = ad227 := (by injection e227)
              replace hx227_0 := cel HB hx227_0
              replace hx227_1 := cel HB hx227_1
              replace hx227_2 := cel HB hx227_2
              replace p227 := eq_true p227
              replace q227 := eq_true q227
              go_wp2_with (first | ((with_reducible refine gate_dst (N := 13) rfl ?_); (try (refine gate_guard (by rfl) ?_; dsimp only)); refine box_event ?hg (N := 13) ?hd (cs := #[.int .i64 0, .int .i64 0, .int .i64 0]) (t := 38) ?hr ?_; (case hd => rfl); (case hg => rfl); (case hr => first | (go_simp; done) | (go_simp; rfl)); intro gb228 hg w19 hbox hb; have n0_ := Aside0.mk (Kd.R_below (rdl HO_8) hb); have n1_ := Aside0.mk (blk_below (g := gb226) (o := .cells #[.int .i64 ((rd_T38 l0 x31_2).f0), .int .i64 ((rd_T38 l0 x31_2).f1), .int .i64 ((rd_T38 l0 x31_2).f2)] 38 (0, 0)) (bkl BK226) hb); have n2_ := Aside0.mk (below_step (bel1 HB GE226) hb); have n3_ := Aside0.mk (hbox); have n4_ := Aside0.mk ((by rw [hg]; exact (below_size (bel1 HB GE226)) : w.heap.size ≤ gb228)); have n5_ := Aside0.mk ((by rw [hg]; exact (below_size (bel1 HB GE226)) : w.heap.size ≤ gb228)); have n6_ := Aside0.mk ((by rw [hg]; exact Nat.ne_of_lt (blk_lt (g := gb226) (o := .cells #[.int .i64 ((rd_T38 l0 x31_2).f0), .int .i64 ((rd_T38 l0 x31_2).f1), .int .i64 ((rd_T38 l0 x31_2).f2)] 38 (0, 0)) (bkl BK226)) : gb226 ≠ gb228)); have n7_ := Aside0.mk ((by rw [hg]; exact Nat.ne_of_gt (blk_lt (g := gb226) (o := .cells #[.int .i64 ((rd_T38 l0 x31_2).f0), .int .i64 ((rd_T38 l0 x31_2).f1), .int .i64 ((rd_T38 l0 x31_2).f2)] 38 (0, 0)) (bkl BK226)) : gb228 ≠ gb226)); clear HO_8; clear BK226; clear HB; have HO_8 := n0_; have BK226 := n1_; have HB := n2_; have BK228 := n3_; have GW228 := n4_; have GE228 := n5_; have NB226_228 := n6_; have NB228_226 := n7_; clear n0_ n1_ n2_ n3_ n4_ n5_ n6_ n7_; clear hb hbox hg; have hnb20 := NB228_226.out; have hnc20 := NB226_228.out; have hcz21_0 : w19.cell? ⟨gb228, 0, none⟩ = some (.int .i64 0) := (blk_cell BK228.out 0).trans rfl; have hcz21_1 : w19.cell? ⟨gb228, 1, none⟩ = some (.int .i64 0) := (blk_cell BK228.out 1).trans rfl; have hcz21_2 : w19.cell? ⟨gb228, 2, none⟩ = some (.int .i64 0) := (blk_cell BK228.out 2).trans rfl; have hfz21_0 := blk_frozen BK228.out 0; have hfz21_1 := blk_frozen BK228.out 1; have hfz21_2 := blk_frozen BK228.out 2; have hcz22_0 : w19.cell? ⟨gb226, 0, none⟩ = some (.int .i64 ((rd_T38 l0 x31_2).f0)) := (blk_cell BK226.out 0).trans rfl; have hcz22_1 : w19.cell? ⟨gb226, 1, none⟩ = some (.int .i64 ((rd_T38 l0 x31_2).f1)) := (blk_cell BK226.out 1).trans rfl; have hcz22_2 : w19.cell? ⟨gb226, 2, none⟩ = some (.int .i64 ((rd_T38 l0 x31_2).f2)) := (blk_cell BK226.out 2).trans rfl; have hfz22_0 := blk_frozen BK226.out 0; have hfz22_1 := blk_frozen BK226.out 1; have hfz22_2 := blk_frozen BK226.out 2) | ((with_reducible refine gate_callee (f := 35) rfl ?_); refine goesL_ (some 61) rfl rfl Try.func35 (by kernel_rfl) rfl #[.int .i64 (wrap64 (t223 + (wrap64 ((wrap64 (((rd_T38 l0 x31_2).f0) - ((rd_T38 l0 x12_3).f0))) * (wrap64 (((rd_T38 l0 x12_3).f1) - ((rd_T38 l0 x31_2).f1)))))))] rfl gmp ?_; (with_reducible refine (impl_size.calls (wrap64 (t223 + (wrap64 ((wrap64 (((rd_T38 l0 x31_2).f0) - ((rd_T38 l0 x12_3).f0))) * (wrap64 (((rd_T38 l0 x12_3).f1) - ((rd_T38 l0 x31_2).f1))))))) t229 _ A17.out).mono ?_); rintro e w23 ⟨rfl, hb⟩; refine ⟨_, rfl, ?_⟩; have n0_ := Aside0.mk (Kd.R_below (by (with_reducible repeat (first | apply Kd.R_alloc | apply Kd.R_drewN | apply Kd.R_drew)); exact (Kd.R_mono (Kd.R_far (p := ⟨gb228, 2, none⟩) (Kd.R_far (p := ⟨gb228, 1, none⟩) (Kd.R_far (p := ⟨gb228, 0, none⟩) (Kd.R_types HO_8.out BK228.out (by decide)) (fun _ hk => hk.2) (.int .i64 ((rd_T38 l0 x12_3).f0))) (fun _ hk => hk.2) (.int .i64 ((rd_T38 l0 x12_3).f1))) (fun _ hk => hk.2) (.int .i64 ((rd_T38 l0 x12_3).f2))) (fun _ h_ => h_.1))) hb); have n1_ := Aside0.mk (blk_below (g := gb226) (o := .cells #[.int .i64 ((rd_T38 l0 x31_2).f0), .int .i64 ((rd_T38 l0 x31_2).f1), .int .i64 ((rd_T38 l0 x31_2).f2)] 38 (0, 0)) (by (with_reducible repeat (first | refine blk_drewN ?_ _ | refine blk_drew ?_ | refine blk_alloc ?_ _)); refine blk_far ?_ NB226_228.out _; (with_reducible repeat (first | refine blk_drewN ?_ _ | refine blk_drew ?_ | refine blk_alloc ?_ _)); refine blk_far ?_ NB226_228.out _; (with_reducible repeat (first | refine blk_drewN ?_ _ | refine blk_drew ?_ | refine blk_alloc ?_ _)); refine blk_far ?_ NB226_228.out _; (with_reducible repeat (first | refine blk_drewN ?_ _ | refine blk_drew ?_ | refine blk_alloc ?_ _)); exact BK226.out) hb); have n2_ := Aside0.mk (blk_below (g := gb228) (o := .cells #[.int .i64 ((rd_T38 l0 x12_3).f0), .int .i64 ((rd_T38 l0 x12_3).f1), .int .i64 ((rd_T38 l0 x12_3).f2)] 38 (0, 0)) (by (with_reducible repeat (first | refine blk_drewN ?_ _ | refine blk_drew ?_ | refine blk_alloc ?_ _)); refine blk_put (cs := #[.int .i64 ((rd_T38 l0 x12_3).f0), .int .i64 ((rd_T38 l0 x12_3).f1), .int .i64 0]) ?_ 2 _ rfl; (with_reducible repeat (first | refine blk_drewN ?_ _ | refine blk_drew ?_ | refine blk_alloc ?_ _)); refine blk_put (cs := #[.int .i64 ((rd_T38 l0 x12_3).f0), .int .i64 0, .int .i64 0]) ?_ 1 _ rfl; (with_reducible repeat (first | refine blk_drewN ?_ _ | refine blk_drew ?_ | refine blk_alloc ?_ _)); refine blk_put (cs := #[.int .i64 0, .int .i64 0, .int .i64 0]) ?_ 0 _ rfl; (with_reducible repeat (first | refine blk_drewN ?_ _ | refine blk_drew ?_ | refine blk_alloc ?_ _)); exact BK228.out) hb); have n3_ := Aside0.mk (below_step (bel2 HB GE226 GE228) hb); clear HO_8; clear BK226; clear BK228; clear HB; have HO_8 := n0_; have BK226 := n1_; have BK228 := n2_; have HB := n3_; clear n0_ n1_ n2_ n3_; (try clear hb); (try clear hb2); (try clear hk); (try clear hi)) | ((with_reducible refine gate_dst (N := 71) rfl ?_); (try (refine gate_guard (by rfl) ?_; dsimp only)); refine Kd.R_lit (Kd.int .i64) _ 3 ?hg (N := 71) ?hd (xs := ([x31_2, x12_3] : List Int)) (inner := [.int .i64 x31_2, .int .i64 x12_3]) (ok := fun _ => True) (okp := fun _ => True) ?hr ?hp (fun _ hk => hk) trivial (Below.refl _ _) (Nat.le_refl _) (by simp) ?_; (case hd => rfl); (case hg => rfl); (case hr => first | (go_simp; done) | (go_simp; rfl)); (case hp => exact (Reps.one (show Kd.M (Kd.int .i64) _ _ _ x31_2 [.int .i64 x31_2] from rfl) (Reps.one (show Kd.M (Kd.int .i64) _ _ _ x12_3 [.int .i64 x12_3] from rfl) (Reps.none _ _)))); intro v231 w25 ho26 hb hg_ hnew_; clear hg_ hnew_; (first | rw [← Ny230.out] at ho26 | (simp only [Int.reduceToNat] at ho26; rw [← Ny230.out] at ho26)); have n0_ := Aside0.mk (Kd.R_elder' (rdl HO_8) (Kd.R_base ho26) hb); have n1_ := Aside0.mk (Kd.R_lower (Kd.R_new' ho26 (Kd.R_lt (rdl HO_8))) (below_size (bel2 HB GE226 GE228))); have n2_ := Aside0.mk (blk_below (g := gb226) (o := .cells #[.int .i64 ((rd_T38 l0 x31_2).f0), .int .i64 ((rd_T38 l0 x31_2).f1), .int .i64 ((rd_T38 l0 x31_2).f2)] 38 (0, 0)) (bkl BK226) hb); have n3_ := Aside0.mk (blk_below (g := gb228) (o := .cells #[.int .i64 ((rd_T38 l0 x12_3).f0), .int .i64 ((rd_T38 l0 x12_3).f1), .int .i64 ((rd_T38 l0 x12_3).f2)] 38 (0, 0)) (bkl BK228) hb); have n4_ := Aside0.mk (below_step (bel2 HB GE226 GE228) hb); clear HO_8; clear BK226; clear BK228; clear HB; have HO_8 := n0_; have HO232 := n1_; have BK226 := n2_; have BK228 := n3_; have HB := n4_; clear n0_ n1_ n2_ n3_ n4_; clear hb ho26))
              go_roundg k3
              case measure => have := HJ1.out; have := HK2.out; have := HK3.out; omega
              case rel => exact ⟨(y230), (t229), (wrap64 (x12_3 + 1)), (by first | rfl | (simp; done) | (simp [*]; done)), (by first | rfl | (simp; done) | (simp [*]; done)), H', ⟨by have := HJ1.out; have := HK2.out; have := HK3.out; omega⟩, ⟨fun h_ => absurd (Ny230.out.symm.trans h_) (by simp)⟩, ⟨by (with_reducible repeat (first | apply Kd.R_alloc | apply Kd.R_drewN | apply Kd.R_drew)); exact Kd.R_mono HO232.out (fun _ hk => trivial)⟩, ⟨bkl BK226⟩, ⟨bel2 HB GE226 GE228⟩⟩
             ·rw [if_neg c18] at H
              have c18b0 : ((x8_3.length : Int) == 0) = false := beq_eq_false_iff_ne.mpr c18
              have c18b1 : ((x8_3.length : Int) != 0) = true := bne_iff_ne.mpr c18
              have c_NE : ¬ (x8_3 = []) := fun h_ => c18 (by rw [h_]; rfl)
              have c18b2 : ¬ (x8_3 = []) := fun h_ => c18 (by rw [h_]; rfl)
              by_cases c27 : t229 < x9_3
              ·rw [if_pos c27] at H
               have c27b0 : decide (t229 < x9_3) = true := decide_eq_true c27
               clear c27
               obtain ⟨y233, hy233⟩ : ∃ y_ : List Int, y_ = (([x31_2, x12_3] : List Int)) := ⟨_, rfl⟩
               replace H : (impl_BestSwap.l1 k3 l0 t223 y233 t229 x31_2 (wrap64 (x12_3 + 1)) l0 (l0.length : Int) x31_2 ((rd_T38 l0 x31_2).f0) ((rd_T38 l0 x31_2).f1) ((rd_T38 l0 x31_2).f2)) = some (r1, r2, r3) := by first | (rw [hy233]; with_reducible exact H) | (have H2_ := (Option.bind_some _ _).symm.trans H; rw [hy233]; with_reducible exact H2_) | (have H2_ := (Option.bind_some _ _).symm.trans H; with_reducible exact H2_) | with_reducible exact H | (rw [hy233]; exact H) | exact H
               have Ny233 := Aside0.mk hy233
               clear hy233
               have H' := Aside0.mk H
               clear H
               have p227 : 0 ≤ (x12_3 : Int) := oda
               have q227 : x12_3 < (l0.length : Int) := oda
               obtain ⟨ad227, e227, hx227_0, hx227_1, hx227_2⟩ := at_T38 HR0.out x12_3 p227 q227
               obtain rfl : ad225 = ad227 := (by injection e227)
               replace hx227_0 := cel HB hx227_0
               replace hx227_1 := cel HB hx227_1
               replace hx227_2 := cel HB hx227_2
               replace p227 := eq_true p227
               replace q227 := eq_true q227
               go_wp2_with (first | ((with_reducible refine gate_dst (N := 13) rfl ?_); (try (refine gate_guard (by rfl) ?_; dsimp only)); refine box_event ?hg (N := 13) ?hd (cs := #[.int .i64 0, .int .i64 0, .int .i64 0]) (t := 38) ?hr ?_; (case hd => rfl); (case hg => rfl); (case hr => first | (go_simp; done) | (go_simp; rfl)); intro gb228 hg w28 hbox hb; have n0_ := Aside0.mk (Kd.R_below (rdl HO_8) hb); have n1_ := Aside0.mk (blk_below (g := gb226) (o := .cells #[.int .i64 ((rd_T38 l0 x31_2).f0), .int .i64 ((rd_T38 l0 x31_2).f1), .int .i64 ((rd_T38 l0 x31_2).f2)] 38 (0, 0)) (bkl BK226) hb); have n2_ := Aside0.mk (below_step (bel1 HB GE226) hb); have n3_ := Aside0.mk (hbox); have n4_ := Aside0.mk ((by rw [hg]; exact (below_size (bel1 HB GE226)) : w.heap.size ≤ gb228)); have n5_ := Aside0.mk ((by rw [hg]; exact (below_size (bel1 HB GE226)) : w.heap.size ≤ gb228)); have n6_ := Aside0.mk ((by rw [hg]; exact Nat.ne_of_lt (blk_lt (g := gb226) (o := .cells #[.int .i64 ((rd_T38 l0 x31_2).f0), .int .i64 ((rd_T38 l0 x31_2).f1), .int .i64 ((rd_T38 l0 x31_2).f2)] 38 (0, 0)) (bkl BK226)) : gb226 ≠ gb228)); have n7_ := Aside0.mk ((by rw [hg]; exact Nat.ne_of_gt (blk_lt (g := gb226) (o := .cells #[.int .i64 ((rd_T38 l0 x31_2).f0), .int .i64 ((rd_T38 l0 x31_2).f1), .int .i64 ((rd_T38 l0 x31_2).f2)] 38 (0, 0)) (bkl BK226)) : gb228 ≠ gb226)); clear HO_8; clear BK226; clear HB; have HO_8 := n0_; have BK226 := n1_; have HB := n2_; have BK228 := n3_; have GW228 := n4_; have GE228 := n5_; have NB226_228 := n6_; have NB228_226 := n7_; clear n0_ n1_ n2_ n3_ n4_ n5_ n6_ n7_; clear hb hbox hg; have hnb29 := NB228_226.out; have hnc29 := NB226_228.out; have hcz30_0 : w28.cell? ⟨gb228, 0, none⟩ = some (.int .i64 0) := (blk_cell BK228.out 0).trans rfl; have hcz30_1 : w28.cell? ⟨gb228, 1, none⟩ = some (.int .i64 0) := (blk_cell BK228.out 1).trans rfl; have hcz30_2 : w28.cell? ⟨gb228, 2, none⟩ = some (.int .i64 0) := (blk_cell BK228.out 2).trans rfl; have hfz30_0 := blk_frozen BK228.out 0; have hfz30_1 := blk_frozen BK228.out 1; have hfz30_2 := blk_frozen BK228.out 2; have hcz31_0 : w28.cell? ⟨gb226, 0, none⟩ = some (.int .i64 ((rd_T38 l0 x31_2).f0)) := (blk_cell BK226.out 0).trans rfl; have hcz31_1 : w28.cell? ⟨gb226, 1, none⟩ = some (.int .i64 ((rd_T38 l0 x31_2).f1)) := (blk_cell BK226.out 1).trans rfl; have hcz31_2 : w28.cell? ⟨gb226, 2, none⟩ = some (.int .i64 ((rd_T38 l0 x31_2).f2)) := (blk_cell BK226.out 2).trans rfl; have hfz31_0 := blk_frozen BK226.out 0; have hfz31_1 := blk_frozen BK226.out 1; have hfz31_2 := blk_frozen BK226.out 2) | ((with_reducible refine gate_callee (f := 35) rfl ?_); refine goesL_ (some 61) rfl rfl Try.func35 (by kernel_rfl) rfl #[.int .i64 (wrap64 (t223 + (wrap64 ((wrap64 (((rd_T38 l0 x31_2).f0) - ((rd_T38 l0 x12_3).f0))) * (wrap64 (((rd_T38 l0 x12_3).f1) - ((rd_T38 l0 x31_2).f1)))))))] rfl gmp ?_; (with_reducible refine (impl_size.calls (wrap64 (t223 + (wrap64 ((wrap64 (((rd_T38 l0 x31_2).f0) - ((rd_T38 l0 x12_3).f0))) * (wrap64 (((rd_T38 l0 x12_3).f1) - ((rd_T38 l0 x31_2).f1))))))) t229 _ A17.out).mono ?_); rintro e w32 ⟨rfl, hb⟩; refine ⟨_, rfl, ?_⟩; have n0_ := Aside0.mk (Kd.R_below (by (with_reducible repeat (first | apply Kd.R_alloc | apply Kd.R_drewN | apply Kd.R_drew)); exact (Kd.R_mono (Kd.R_far (p := ⟨gb228, 2, none⟩) (Kd.R_far (p := ⟨gb228, 1, none⟩) (Kd.R_far (p := ⟨gb228, 0, none⟩) (Kd.R_types HO_8.out BK228.out (by decide)) (fun _ hk => hk.2) (.int .i64 ((rd_T38 l0 x12_3).f0))) (fun _ hk => hk.2) (.int .i64 ((rd_T38 l0 x12_3).f1))) (fun _ hk => hk.2) (.int .i64 ((rd_T38 l0 x12_3).f2))) (fun _ h_ => h_.1))) hb); have n1_ := Aside0.mk (blk_below (g := gb226) (o := .cells #[.int .i64 ((rd_T38 l0 x31_2).f0), .int .i64 ((rd_T38 l0 x31_2).f1), .int .i64 ((rd_T38 l0 x31_2).f2)] 38 (0, 0)) (by (with_reducible repeat (first | refine blk_drewN ?_ _ | refine blk_drew ?_ | refine blk_alloc ?_ _)); refine blk_far ?_ NB226_228.out _; (with_reducible repeat (first | refine blk_drewN ?_ _ | refine blk_drew ?_ | refine blk_alloc ?_ _)); refine blk_far ?_ NB226_228.out _; (with_reducible repeat (first | refine blk_drewN ?_ _ | refine blk_drew ?_ | refine blk_alloc ?_ _)); refine blk_far ?_ NB226_228.out _; (with_reducible repeat (first | refine blk_drewN ?_ _ | refine blk_drew ?_ | refine blk_alloc ?_ _)); exact BK226.out) hb); have n2_ := Aside0.mk (blk_below (g := gb228) (o := .cells #[.int .i64 ((rd_T38 l0 x12_3).f0), .int .i64 ((rd_T38 l0 x12_3).f1), .int .i64 ((rd_T38 l0 x12_3).f2)] 38 (0, 0)) (by (with_reducible repeat (first | refine blk_drewN ?_ _ | refine blk_drew ?_ | refine blk_alloc ?_ _)); refine blk_put (cs := #[.int .i64 ((rd_T38 l0 x12_3).f0), .int .i64 ((rd_T38 l0 x12_3).f1), .int .i64 0]) ?_ 2 _ rfl; (with_reducible repeat (first | refine blk_drewN ?_ _ | refine blk_drew ?_ | refine blk_alloc ?_ _)); refine blk_put (cs := #[.int .i64 ((rd_T38 l0 x12_3).f0), .int .i64 0, .int .i64 0]) ?_ 1 _ rfl; (with_reducible repeat (first | refine blk_drewN ?_ _ | refine blk_drew ?_ | refine blk_alloc ?_ _)); refine blk_put (cs := #[.int .i64 0, .int .i64 0, .int .i64 0]) ?_ 0 _ rfl; (with_reducible repeat (first | refine blk_drewN ?_ _ | refine blk_drew ?_ | refine blk_alloc ?_ _)); exact BK228.out) hb); have n3_ := Aside0.mk (below_step (bel2 HB GE226 GE228) hb); clear HO_8; clear BK226; clear BK228; clear HB; have HO_8 := n0_; have BK226 := n1_; have BK228 := n2_; have HB := n3_; clear n0_ n1_ n2_ n3_; (try clear hb); (try clear hb2); (try clear hk); (try clear hi); obtain ⟨Ao33, no_, co33, eo33⟩ := impl_BestSwap.some_ HO_8.out c_NE; subst eo33) | ((with_reducible refine gate_dst (N := 71) rfl ?_); (try (refine gate_guard (by rfl) ?_; dsimp only)); refine Kd.R_lit (Kd.int .i64) _ 3 ?hg (N := 71) ?hd (xs := ([x31_2, x12_3] : List Int)) (inner := [.int .i64 x31_2, .int .i64 x12_3]) (ok := fun _ => True) (okp := fun _ => True) ?hr ?hp (fun _ hk => hk) trivial (Below.refl _ _) (Nat.le_refl _) (by simp) ?_; (case hd => rfl); (case hg => rfl); (case hr => first | (go_simp; done) | (go_simp; rfl)); (case hp => exact (Reps.one (show Kd.M (Kd.int .i64) _ _ _ x31_2 [.int .i64 x31_2] from rfl) (Reps.one (show Kd.M (Kd.int .i64) _ _ _ x12_3 [.int .i64 x12_3] from rfl) (Reps.none _ _)))); intro v234 w34 ho35 hb hg_ hnew_; clear hg_ hnew_; (first | rw [← Ny233.out] at ho35 | (simp only [Int.reduceToNat] at ho35; rw [← Ny233.out] at ho35)); have n0_ := Aside0.mk (Kd.R_elder' (rdl HO_8) (Kd.R_base ho35) hb); have n1_ := Aside0.mk (Kd.R_lower (Kd.R_new' ho35 (Kd.R_lt (rdl HO_8))) (below_size (bel2 HB GE226 GE228))); have n2_ := Aside0.mk (blk_below (g := gb226) (o := .cells #[.int .i64 ((rd_T38 l0 x31_2).f0), .int .i64 ((rd_T38 l0 x31_2).f1), .int .i64 ((rd_T38 l0 x31_2).f2)] 38 (0, 0)) (bkl BK226) hb); have n3_ := Aside0.mk (blk_below (g := gb228) (o := .cells #[.int .i64 ((rd_T38 l0 x12_3).f0), .int .i64 ((rd_T38 l0 x12_3).f1), .int .i64 ((rd_T38 l0 x12_3).f2)] 38 (0, 0)) (bkl BK228) hb); have n4_ := Aside0.mk (below_step (bel2 HB GE226 GE228) hb); clear HO_8; clear BK226; clear BK228; clear HB; have HO_8 := n0_; have HO235 := n1_; have BK226 := n2_; have BK228 := n3_; have HB := n4_; clear n0_ n1_ n2_ n3_ n4_; clear hb ho35))
               go_roundg k3
               case measure => have := HJ1.out; have := HK2.out; have := HK3.out; omega
               case rel => exact ⟨(y233), (t229), (wrap64 (x12_3 + 1)), (by first | rfl | (simp; done) | (simp [*]; done)), (by first | rfl | (simp; done) | (simp [*]; done)), H', ⟨by have := HJ1.out; have := HK2.out; have := HK3.out; omega⟩, ⟨fun h_ => absurd (Ny233.out.symm.trans h_) (by simp)⟩, ⟨by (with_reducible repeat (first | apply Kd.R_alloc | apply Kd.R_drewN | apply Kd.R_drew)); exact Kd.R_mono HO235.out (fun _ hk => trivial)⟩, ⟨bkl BK226⟩, ⟨bel2 HB GE226 GE228⟩⟩
              ·rw [if_neg c27] at H
               have c27b0 : decide (t229 < x9_3) = false := decide_eq_false c27
               clear c27
               have H' := Aside0.mk H
               clear H
               have p227 : 0 ≤ (x12_3 : Int) := oda
               have q227 : x12_3 < (l0.length : Int) := oda
               obtain ⟨ad227, e227, hx227_0, hx227_1, hx227_2⟩ := at_T38 HR0.out x12_3 p227 q227
               obtain rfl : ad225 = ad227 := (by injection e227)
               replace hx227_0 := cel HB hx227_0
               replace hx227_1 := cel HB hx227_1
               replace hx227_2 := cel HB hx227_2
               replace p227 := eq_true p227
               replace q227 := eq_true q227
               go_wp2_with (first | ((with_reducible refine gate_dst (N := 13) rfl ?_); (try (refine gate_guard (by rfl) ?_; dsimp only)); refine box_event ?hg (N := 13) ?hd (cs := #[.int .i64 0, .int .i64 0, .int .i64 0]) (t := 38) ?hr ?_; (case hd => rfl); (case hg => rfl); (case hr => first | (go_simp; done) | (go_simp; rfl)); intro gb228 hg w36 hbox hb; have n0_ := Aside0.mk (Kd.R_below (rdl HO_8) hb); have n1_ := Aside0.mk (blk_below (g := gb226) (o := .cells #[.int .i64 ((rd_T38 l0 x31_2).f0), .int .i64 ((rd_T38 l0 x31_2).f1), .int .i64 ((rd_T38 l0 x31_2).f2)] 38 (0, 0)) (bkl BK226) hb); have n2_ := Aside0.mk (below_step (bel1 HB GE226) hb); have n3_ := Aside0.mk (hbox); have n4_ := Aside0.mk ((by rw [hg]; exact (below_size (bel1 HB GE226)) : w.heap.size ≤ gb228)); have n5_ := Aside0.mk ((by rw [hg]; exact (below_size (bel1 HB GE226)) : w.heap.size ≤ gb228)); have n6_ := Aside0.mk ((by rw [hg]; exact Nat.ne_of_lt (blk_lt (g := gb226) (o := .cells #[.int .i64 ((rd_T38 l0 x31_2).f0), .int .i64 ((rd_T38 l0 x31_2).f1), .int .i64 ((rd_T38 l0 x31_2).f2)] 38 (0, 0)) (bkl BK226)) : gb226 ≠ gb228)); have n7_ := Aside0.mk ((by rw [hg]; exact Nat.ne_of_gt (blk_lt (g := gb226) (o := .cells #[.int .i64 ((rd_T38 l0 x31_2).f0), .int .i64 ((rd_T38 l0 x31_2).f1), .int .i64 ((rd_T38 l0 x31_2).f2)] 38 (0, 0)) (bkl BK226)) : gb228 ≠ gb226)); clear HO_8; clear BK226; clear HB; have HO_8 := n0_; have BK226 := n1_; have HB := n2_; have BK228 := n3_; have GW228 := n4_; have GE228 := n5_; have NB226_228 := n6_; have NB228_226 := n7_; clear n0_ n1_ n2_ n3_ n4_ n5_ n6_ n7_; clear hb hbox hg; have hnb37 := NB228_226.out; have hnc37 := NB226_228.out; have hcz38_0 : w36.cell? ⟨gb228, 0, none⟩ = some (.int .i64 0) := (blk_cell BK228.out 0).trans rfl; have hcz38_1 : w36.cell? ⟨gb228, 1, none⟩ = some (.int .i64 0) := (blk_cell BK228.out 1).trans rfl; have hcz38_2 : w36.cell? ⟨gb228, 2, none⟩ = some (.int .i64 0) := (blk_cell BK228.out 2).trans rfl; have hfz38_0 := blk_frozen BK228.out 0; have hfz38_1 := blk_frozen BK228.out 1; have hfz38_2 := blk_frozen BK228.out 2; have hcz39_0 : w36.cell? ⟨gb226, 0, none⟩ = some (.int .i64 ((rd_T38 l0 x31_2).f0)) := (blk_cell BK226.out 0).trans rfl; have hcz39_1 : w36.cell? ⟨gb226, 1, none⟩ = some (.int .i64 ((rd_T38 l0 x31_2).f1)) := (blk_cell BK226.out 1).trans rfl; have hcz39_2 : w36.cell? ⟨gb226, 2, none⟩ = some (.int .i64 ((rd_T38 l0 x31_2).f2)) := (blk_cell BK226.out 2).trans rfl; have hfz39_0 := blk_frozen BK226.out 0; have hfz39_1 := blk_frozen BK226.out 1; have hfz39_2 := blk_frozen BK226.out 2) | ((with_reducible refine gate_callee (f := 35) rfl ?_); refine goesL_ (some 61) rfl rfl Try.func35 (by kernel_rfl) rfl #[.int .i64 (wrap64 (t223 + (wrap64 ((wrap64 (((rd_T38 l0 x31_2).f0) - ((rd_T38 l0 x12_3).f0))) * (wrap64 (((rd_T38 l0 x12_3).f1) - ((rd_T38 l0 x31_2).f1)))))))] rfl gmp ?_; (with_reducible refine (impl_size.calls (wrap64 (t223 + (wrap64 ((wrap64 (((rd_T38 l0 x31_2).f0) - ((rd_T38 l0 x12_3).f0))) * (wrap64 (((rd_T38 l0 x12_3).f1) - ((rd_T38 l0 x31_2).f1))))))) t229 _ A17.out).mono ?_); rintro e w40 ⟨rfl, hb⟩; refine ⟨_, rfl, ?_⟩; have n0_ := Aside0.mk (Kd.R_below (by (with_reducible repeat (first | apply Kd.R_alloc | apply Kd.R_drewN | apply Kd.R_drew)); exact (Kd.R_mono (Kd.R_far (p := ⟨gb228, 2, none⟩) (Kd.R_far (p := ⟨gb228, 1, none⟩) (Kd.R_far (p := ⟨gb228, 0, none⟩) (Kd.R_types HO_8.out BK228.out (by decide)) (fun _ hk => hk.2) (.int .i64 ((rd_T38 l0 x12_3).f0))) (fun _ hk => hk.2) (.int .i64 ((rd_T38 l0 x12_3).f1))) (fun _ hk => hk.2) (.int .i64 ((rd_T38 l0 x12_3).f2))) (fun _ h_ => h_.1))) hb); have n1_ := Aside0.mk (blk_below (g := gb226) (o := .cells #[.int .i64 ((rd_T38 l0 x31_2).f0), .int .i64 ((rd_T38 l0 x31_2).f1), .int .i64 ((rd_T38 l0 x31_2).f2)] 38 (0, 0)) (by (with_reducible repeat (first | refine blk_drewN ?_ _ | refine blk_drew ?_ | refine blk_alloc ?_ _)); refine blk_far ?_ NB226_228.out _; (with_reducible repeat (first | refine blk_drewN ?_ _ | refine blk_drew ?_ | refine blk_alloc ?_ _)); refine blk_far ?_ NB226_228.out _; (with_reducible repeat (first | refine blk_drewN ?_ _ | refine blk_drew ?_ | refine blk_alloc ?_ _)); refine blk_far ?_ NB226_228.out _; (with_reducible repeat (first | refine blk_drewN ?_ _ | refine blk_drew ?_ | refine blk_alloc ?_ _)); exact BK226.out) hb); have n2_ := Aside0.mk (blk_below (g := gb228) (o := .cells #[.int .i64 ((rd_T38 l0 x12_3).f0), .int .i64 ((rd_T38 l0 x12_3).f1), .int .i64 ((rd_T38 l0 x12_3).f2)] 38 (0, 0)) (by (with_reducible repeat (first | refine blk_drewN ?_ _ | refine blk_drew ?_ | refine blk_alloc ?_ _)); refine blk_put (cs := #[.int .i64 ((rd_T38 l0 x12_3).f0), .int .i64 ((rd_T38 l0 x12_3).f1), .int .i64 0]) ?_ 2 _ rfl; (with_reducible repeat (first | refine blk_drewN ?_ _ | refine blk_drew ?_ | refine blk_alloc ?_ _)); refine blk_put (cs := #[.int .i64 ((rd_T38 l0 x12_3).f0), .int .i64 0, .int .i64 0]) ?_ 1 _ rfl; (with_reducible repeat (first | refine blk_drewN ?_ _ | refine blk_drew ?_ | refine blk_alloc ?_ _)); refine blk_put (cs := #[.int .i64 0, .int .i64 0, .int .i64 0]) ?_ 0 _ rfl; (with_reducible repeat (first | refine blk_drewN ?_ _ | refine blk_drew ?_ | refine blk_alloc ?_ _)); exact BK228.out) hb); have n3_ := Aside0.mk (below_step (bel2 HB GE226 GE228) hb); clear HO_8; clear BK226; clear BK228; clear HB; have HO_8 := n0_; have BK226 := n1_; have BK228 := n2_; have HB := n3_; clear n0_ n1_ n2_ n3_; (try clear hb); (try clear hb2); (try clear hk); (try clear hi); obtain ⟨Ao41, no_, co41, eo41⟩ := impl_BestSwap.some_ HO_8.out c_NE; subst eo41))
               go_roundg k3
               case measure => have := HJ1.out; have := HK2.out; have := HK3.out; omega
               case rel => exact ⟨(x8_3), (x9_3), (wrap64 (x12_3 + 1)), (by first | rfl | (simp; done) | (simp [*]; done)), (by first | rfl | (simp; done) | (simp [*]; done)), H', ⟨by have := HJ1.out; have := HK2.out; have := HK3.out; omega⟩, NIL8, ⟨rdl HO_8⟩, ⟨bkl BK226⟩, ⟨bel2 HB GE226 GE228⟩⟩
            ·rw [if_neg c16] at H
             exact absurd H (by simp)
           ·rw [if_neg c15] at H
            have c15b0 : decide (x12_3 < (l0.length : Int)) = false := decide_eq_false c15
            clear c15
            have H' := Aside0.mk H
            clear H
            go_wp2
            go_roundg k3
            case measure => have := HJ1.out; have := HK2.out; have := HK3.out; omega
            case rel => exact ⟨(x8_3), (x9_3), (wrap64 (x31_2 + 1)), (by first | rfl | (simp; done) | (simp [*]; done)), (by first | rfl | (simp; done) | (simp [*]; done)), H', ⟨by have := HJ1.out; have := HK2.out; have := HK3.out; omega⟩, NIL8, ⟨rdl HO_8⟩, ⟨bel1 HB GE226⟩⟩
        ·rw [if_neg c12] at H
         exact absurd H (by simp)
       ·rw [if_neg c11] at H
        exact absurd H (by simp)
      ·rw [if_neg c10] at H
       have c10b0 : decide (x31_2 < (l0.length : Int)) = false := decide_eq_false c10
       clear c10
       simp only [Option.some.injEq, Prod.mk.injEq] at H
       obtain ⟨rfl, rfl, rfl⟩ := H
       go_wp2
       go_ret3
       exact ⟨_, by first | rfl | (simp [errW_none, errW_some] <;> rfl) | (simp [*, errW_none, errW_some] <;> rfl), rdl HO_8, bel HB⟩

end Go.Proofs.Ytkahifpcimoogaa.P
