-- Written by a program of this session over the translation (a variant of the printer, see wip/gen); Lean checks it.
import Derived.Test.YtmpmcckjpkijnaaPx0
import Derived.Test.YtmpmcckjpkijnaaPx5
namespace Go.Proofs.Ytmpmcckjpkijnaa.P
open Go.RowKit Go.Proofs.YtmpmcckjpkijnaaW.PrintWords Go.Proofs.YtmpmcckjpkijnaaW.PrintLast Go.Proofs.YtmpmcckjpkijnaaW.PrintMore
attribute [local go_sem] Go.Proofs.Ytmpmcckjpkijnaa.V.isSome_setCell max2_int min2_int max_two min_two max_three min_three max_four min_four   -- for this text's walks alone
set_option linter.unusedVariables false
set_option linter.unusedSimpArgs false

/-! ### spec_l2List: function 71 -/
mutual
def spec_l2List.l0 : Nat → List (S69) → Int → Option (Bool)
 | 0, _, _ => none
 | k + 1, x0, x3 => if x3 < (x0.length : Int) then (spec_l2List.j1 k x0 x3 (decide (x3 ≤ 12))) else (spec_l2List.j1 k x0 x3 false)
def spec_l2List.j1 : Nat → List (S69) → Int → Bool → Option (Bool)
 | 0, _, _, _ => none
 | k + 1, x0, x3, x11 => if x11 = true then (if 0 ≤ x3 then (if x3 < (x0.length : Int) then ((spec_l2Good.f k ((rd_T69 x0 x3).f0) ((rd_T69 x0 x3).f1) ((rd_T69 x0 x3).f2) ((rd_T69 x0 x3).f3) ((rd_T69 x0 x3).f4)).bind fun t133 => (if t133 = true then ((spec_l2Find.f k x0 ((rd_T69 x0 x3).f0)).bind fun t135 => (if t135 = x3 then (spec_l2List.l0 k x0 (wrap64 (x3 + 1))) else (some false))) else (some false))) else (none)) else (none)) else (some (decide ((x0.length : Int) ≤ 12)))
end
def spec_l2List.f (k : Nat) (l0 : List (S69)) : Option (Bool) := spec_l2List.l0 k l0 0
theorem spec_l2List.mono_l : ∀ k, (∀ y0 y1, LeO (spec_l2List.l0 k y0 y1) (spec_l2List.l0 (k + 1) y0 y1)) ∧ (∀ y0 y1 y2, LeO (spec_l2List.j1 k y0 y1 y2) (spec_l2List.j1 (k + 1) y0 y1 y2))
 | 0 => ⟨fun _ _ r h => by simp [spec_l2List.l0] at h, fun _ _ _ r h => by simp [spec_l2List.j1] at h⟩
 | k + 1 => by
  obtain ⟨ih0, ih1⟩ := spec_l2List.mono_l k
  refine ⟨?_, ?_⟩
  ·intro y0 y1
   unfold spec_l2List.l0
   repeat' first
   | (with_reducible exact ih0 _ _)
   | (with_reducible exact ih1 _ _ _)
   | (with_reducible exact spec_l2Find.mono _ _ _)
   | (with_reducible exact spec_l2Good.mono _ _ _ _ _ _)
   | (with_reducible exact LeO.refl _)
   | (with_reducible exact LeO.none _)
   | (with_reducible refine LeO.ite ?_ ?_)
   | (with_reducible refine LeO.bind ?_ (fun _ => ?_))
   | exact ih0 _ _
   | exact ih1 _ _ _
   | exact spec_l2Find.mono _ _ _
   | exact spec_l2Good.mono _ _ _ _ _ _
   | exact LeO.none _
   | refine LeO.ite ?_ ?_
   | refine LeO.bind ?_ (fun _ => ?_)
  ·intro y0 y1 y2
   unfold spec_l2List.j1
   repeat' first
   | (with_reducible exact ih0 _ _)
   | (with_reducible exact ih1 _ _ _)
   | (with_reducible exact spec_l2Find.mono _ _ _)
   | (with_reducible exact spec_l2Good.mono _ _ _ _ _ _)
   | (with_reducible exact LeO.refl _)
   | (with_reducible exact LeO.none _)
   | (with_reducible refine LeO.ite ?_ ?_)
   | (with_reducible refine LeO.bind ?_ (fun _ => ?_))
   | exact ih0 _ _
   | exact ih1 _ _ _
   | exact spec_l2Find.mono _ _ _
   | exact spec_l2Good.mono _ _ _ _ _ _
   | exact LeO.none _
   | refine LeO.ite ?_ ?_
   | refine LeO.bind ?_ (fun _ => ?_)
theorem spec_l2List.mono : ∀ a0 k, LeO (spec_l2List.f k a0) (spec_l2List.f (k + 1) a0) := by
 intro a0 k
 obtain ⟨ih0, ih1⟩ := spec_l2List.mono_l k
 unfold spec_l2List.f
 repeat' first
   | (with_reducible exact ih0 _ _)
   | (with_reducible exact ih1 _ _ _)
   | (with_reducible exact spec_l2Find.mono _ _ _)
   | (with_reducible exact spec_l2Good.mono _ _ _ _ _ _)
   | (with_reducible exact LeO.refl _)
   | (with_reducible exact LeO.none _)
   | (with_reducible refine LeO.ite ?_ ?_)
   | (with_reducible refine LeO.bind ?_ (fun _ => ?_))
   | exact ih0 _ _
   | exact ih1 _ _ _
   | exact spec_l2Find.mono _ _ _
   | exact spec_l2Good.mono _ _ _ _ _ _
   | exact LeO.none _
   | refine LeO.ite ?_ ?_
   | refine LeO.bind ?_ (fun _ => ?_)
set_option maxHeartbeats 8000000 in
set_option maxRecDepth 100000 in
theorem spec_l2List.calls (k : Nat) (A0 : Option Addr) (c0 : Nat) (l0 : List (S69)) (r : Bool) (w : World) (hr0 : Kd.C k69 w A0 l0.length l0) (hc0 : l0.length ≤ c0) (h : spec_l2List.f k l0 = some r) :
  Calls Try.prog 71 #[.slice A0 l0.length c0] w fun e w' => e = .returned (.bool r) ∧ Below w.heap.size w w' := by
 have hu69 := Try.underlying69
 have HR0 := Aside0.mk hr0
 have HC0 := Aside0.mk hc0
 clear hr0 hc0
 have HB := Aside0.mk (Below.refl w.heap.size w)
 have H : (spec_l2List.l0 k l0 0) = some r := h
 clear h
 have H' := Aside0.mk H
 clear H
 go_enter Try.func71, Try.ntmps71
 go_wp2
 go_loopg [3] k (fun kq v3 w' => ∃ (x3_1 : Int), v3 = .int .i64 x3_1 ∧ Aside0 (spec_l2List.l0 kq l0 x3_1 = some r) ∧ Aside0 (kq ≤ k) ∧ Aside0 (Below w.heap.size w w'))
 case atStart => exact ⟨(0), (by first | rfl | (simp; done) | (simp [*]; done)), H', ⟨Nat.le_refl _⟩, ⟨bel HB⟩⟩
 case round =>
  clear H'
  obtain ⟨x3_1, rfl, HA, HK1, HB⟩ := hrel
  cases gk with
  | zero => exact absurd HA.out (by simp [spec_l2List.l0])
  | succ k1 =>
   have H := HA.out
   clear HA
   simp only [spec_l2List.l0] at H
   have HC2 := Aside0.mk H
   clear H
   go_upto_region 2 with (fail)
   go_cut [11] (fun v11 wc => ∃ (kq : Nat) (x11_1 : Bool), v11 = .bool x11_1 ∧ Aside0 (spec_l2List.j1 kq l0 x3_1 x11_1 = some r) ∧ Aside0 (kq ≤ k1) ∧ Aside0 (Below w.heap.size w wc))
   case first =>
    have H := HC2.out
    clear HC2
    by_cases c3 : x3_1 < (l0.length : Int)
    ·rw [if_pos c3] at H
     have c3b0 : decide (x3_1 < (l0.length : Int)) = true := decide_eq_true c3
     clear c3
     (first | rw [c3b0] | (simp only [i64_w, i32_w]; rw [c3b0]) | skip)
     have H' := Aside0.mk H
     clear H
     go_wp2
     go_meet
     case rel => exact ⟨_, (decide (x3_1 ≤ 12)), (by first | rfl | (simp; done) | (simp [*]; done)), H', ⟨by have := HK1.out; first | omega | exact Nat.le_refl _⟩, ⟨bel HB⟩⟩
    ·rw [if_neg c3] at H
     have c3b0 : decide (x3_1 < (l0.length : Int)) = false := decide_eq_false c3
     clear c3
     (first | rw [c3b0] | (simp only [i64_w, i32_w]; rw [c3b0]) | skip)
     have H' := Aside0.mk H
     clear H
     go_wp2
     go_meet
     case rel => exact ⟨_, (false), (by first | rfl | (simp; done) | (simp [*]; done)), H', ⟨by have := HK1.out; first | omega | exact Nat.le_refl _⟩, ⟨bel HB⟩⟩
   case rest =>
    clear HC2
    try clear p2
    try clear c3
    try clear c3b0
    obtain ⟨kq, x11_1, rfl, HA, HJ1, HB⟩ := hcut
    cases kq with
    | zero => exact absurd HA.out (by simp [spec_l2List.j1])
    | succ kj1 =>
     have H := HA.out
     clear HA
     simp only [spec_l2List.j1] at H
     by_cases c4 : x11_1 = true
     ·subst c4
      have H1 : (if 0 ≤ x3_1 then (if x3_1 < (l0.length : Int) then ((spec_l2Good.f kj1 ((rd_T69 l0 x3_1).f0) ((rd_T69 l0 x3_1).f1) ((rd_T69 l0 x3_1).f2) ((rd_T69 l0 x3_1).f3) ((rd_T69 l0 x3_1).f4)).bind fun t133 => (if t133 = true then ((spec_l2Find.f kj1 l0 ((rd_T69 l0 x3_1).f0)).bind fun t135 => (if t135 = x3_1 then (spec_l2List.l0 kj1 l0 (wrap64 (x3_1 + 1))) else (some false))) else (some false))) else (none)) else (none)) = some r := by rw [if_pos rfl] at H; exact H
      clear H
      have H := H1
      clear H1
      by_cases c5 : 0 ≤ x3_1
      ·rw [if_pos c5] at H
       have c5b0 : decide (0 ≤ x3_1) = true := decide_eq_true c5
       clear c5
       by_cases c6 : x3_1 < (l0.length : Int)
       ·rw [if_pos c6] at H
        have c6b0 : decide (x3_1 < (l0.length : Int)) = true := decide_eq_true c6
        clear c6
        replace H := Option.bind_eq_some_iff.mp H
        obtain ⟨t133, A70, H⟩ := H
        replace H : (if t133 = true then ((spec_l2Find.f kj1 l0 ((rd_T69 l0 x3_1).f0)).bind fun t135 => (if t135 = x3_1 then (spec_l2List.l0 kj1 l0 (wrap64 (x3_1 + 1))) else (some false))) else (some false)) = some r := H
        have A7 := Aside0.mk A70
        clear A70
        by_cases c8 : t133 = true
        ·subst c8
         have H1 : ((spec_l2Find.f kj1 l0 ((rd_T69 l0 x3_1).f0)).bind fun t135 => (if t135 = x3_1 then (spec_l2List.l0 kj1 l0 (wrap64 (x3_1 + 1))) else (some false))) = some r := by rw [if_pos rfl] at H; exact H
         clear H
         have H := H1
         clear H1
         replace H := Option.bind_eq_some_iff.mp H
         obtain ⟨t135, A90, H⟩ := H
         replace H : (if t135 = x3_1 then (spec_l2List.l0 kj1 l0 (wrap64 (x3_1 + 1))) else (some false)) = some r := H
         have A9 := Aside0.mk A90
         clear A90
         by_cases c10 : t135 = x3_1
         ·rw [if_pos c10] at H
          have c10b0 : (t135 == x3_1) = true := beq_iff_eq.mpr c10
          have c10b1 : (t135 != x3_1) = false := bne_eq_false_iff_eq.mpr c10
          clear c10
          have H' := Aside0.mk H
          clear H
          have p132 : 0 ≤ (x3_1 : Int) := oda
          have q132 : x3_1 < (l0.length : Int) := oda
          obtain ⟨ad132, e132, hx132_0, hx132_1, hx132_2, hx132_3, hx132_4⟩ := at_T69 HR0.out x3_1 p132 q132
          cases e132
          replace hx132_0 := cel HB hx132_0
          replace hx132_1 := cel HB hx132_1
          replace hx132_2 := cel HB hx132_2
          replace hx132_3 := cel HB hx132_3
          replace hx132_4 := cel HB hx132_4
          replace p132 := eq_true p132
          replace q132 := eq_true q132
          go_wp2_with (first | ((with_reducible refine gate_callee (f := 86) rfl ?_); refine goesL_ (some 18) rfl rfl Try.func86 (by kernel_rfl) rfl #[.agg #[.string ((rd_T69 l0 x3_1).f0), .int .i64 ((rd_T69 l0 x3_1).f1), .int .i64 ((rd_T69 l0 x3_1).f2), .int .i64 ((rd_T69 l0 x3_1).f3), .int .i64 ((rd_T69 l0 x3_1).f4)]] rfl gmp ?_; (with_reducible refine (spec_l2Good.calls kj1 ((rd_T69 l0 x3_1).f0) ((rd_T69 l0 x3_1).f1) ((rd_T69 l0 x3_1).f2) ((rd_T69 l0 x3_1).f3) ((rd_T69 l0 x3_1).f4) true _ A7.out).mono ?_); rintro e w11 ⟨rfl, hb⟩; refine ⟨_, rfl, ?_⟩; have n0_ := Aside0.mk (below_step (bel HB) hb); clear HB; have HB := n0_; clear n0_; (try clear hb); (try clear hb2); (try clear hk); (try clear hi); have p134 : 0 ≤ (x3_1 : Int) := oda; have q134 : x3_1 < (l0.length : Int) := oda; obtain ⟨ad134, e134, hx134_0, hx134_1, hx134_2, hx134_3, hx134_4⟩ := at_T69 HR0.out x3_1 p134 q134; obtain rfl : ad132 = ad134 := (by injection e134); replace hx134_0 := cel HB hx134_0; replace hx134_1 := cel HB hx134_1; replace hx134_2 := cel HB hx134_2; replace hx134_3 := cel HB hx134_3; replace hx134_4 := cel HB hx134_4; replace p134 := eq_true p134; replace q134 := eq_true q134) | (go_at_call 87; (with_reducible refine (spec_l2Find.calls kj1 _ _ l0 ((rd_T69 l0 x3_1).f0) t135 _ ?side1 ?side2 A9.out).mono ?_); (case side1 => exact cdl (Kd.C_below HR0.out HB.out)); (case side2 => exact HC0.out); rintro e w' ⟨rfl, ⟨nd, rfl⟩⟩))
          go_roundg kj1
          case measure => have := HK1.out; have := HJ1.out; omega
          case rel => exact ⟨(wrap64 (x3_1 + 1)), (by first | rfl | (simp; done) | (simp [*]; done)), H', ⟨by have := HK1.out; have := HJ1.out; omega⟩, ⟨bel HB⟩⟩
         ·rw [if_neg c10] at H
          have c10b0 : (t135 == x3_1) = false := beq_eq_false_iff_ne.mpr c10
          have c10b1 : (t135 != x3_1) = true := bne_iff_ne.mpr c10
          obtain rfl := Option.some.inj H
          have p132 : 0 ≤ (x3_1 : Int) := oda
          have q132 : x3_1 < (l0.length : Int) := oda
          obtain ⟨ad132, e132, hx132_0, hx132_1, hx132_2, hx132_3, hx132_4⟩ := at_T69 HR0.out x3_1 p132 q132
          cases e132
          replace hx132_0 := cel HB hx132_0
          replace hx132_1 := cel HB hx132_1
          replace hx132_2 := cel HB hx132_2
          replace hx132_3 := cel HB hx132_3
          replace hx132_4 := cel HB hx132_4
          replace p132 := eq_true p132
          replace q132 := eq_true q132
          go_wp2_with (first | ((with_reducible refine gate_callee (f := 86) rfl ?_); refine goesL_ (some 18) rfl rfl Try.func86 (by kernel_rfl) rfl #[.agg #[.string ((rd_T69 l0 x3_1).f0), .int .i64 ((rd_T69 l0 x3_1).f1), .int .i64 ((rd_T69 l0 x3_1).f2), .int .i64 ((rd_T69 l0 x3_1).f3), .int .i64 ((rd_T69 l0 x3_1).f4)]] rfl gmp ?_; (with_reducible refine (spec_l2Good.calls kj1 ((rd_T69 l0 x3_1).f0) ((rd_T69 l0 x3_1).f1) ((rd_T69 l0 x3_1).f2) ((rd_T69 l0 x3_1).f3) ((rd_T69 l0 x3_1).f4) true _ A7.out).mono ?_); rintro e w12 ⟨rfl, hb⟩; refine ⟨_, rfl, ?_⟩; have n0_ := Aside0.mk (below_step (bel HB) hb); clear HB; have HB := n0_; clear n0_; (try clear hb); (try clear hb2); (try clear hk); (try clear hi); have p134 : 0 ≤ (x3_1 : Int) := oda; have q134 : x3_1 < (l0.length : Int) := oda; obtain ⟨ad134, e134, hx134_0, hx134_1, hx134_2, hx134_3, hx134_4⟩ := at_T69 HR0.out x3_1 p134 q134; obtain rfl : ad132 = ad134 := (by injection e134); replace hx134_0 := cel HB hx134_0; replace hx134_1 := cel HB hx134_1; replace hx134_2 := cel HB hx134_2; replace hx134_3 := cel HB hx134_3; replace hx134_4 := cel HB hx134_4; replace p134 := eq_true p134; replace q134 := eq_true q134) | (go_at_call 87; (with_reducible refine (spec_l2Find.calls kj1 _ _ l0 ((rd_T69 l0 x3_1).f0) t135 _ ?side1 ?side2 A9.out).mono ?_); (case side1 => exact cdl (Kd.C_below HR0.out HB.out)); (case side2 => exact HC0.out); rintro e w' ⟨rfl, ⟨nd, rfl⟩⟩))
          go_ret
          exact ⟨by first | rfl | (simp [errW_none, errW_some] <;> rfl) | (simp [*, errW_none, errW_some] <;> rfl), bel HB⟩
        ·replace c8 := Bool.eq_false_iff.mpr c8
         subst c8
         have H1 : (some false) = some r := by rw [if_neg (show ¬ (false = true) by decide)] at H; exact H
         clear H
         have H := H1
         clear H1
         obtain rfl := Option.some.inj H
         have p132 : 0 ≤ (x3_1 : Int) := oda
         have q132 : x3_1 < (l0.length : Int) := oda
         obtain ⟨ad132, e132, hx132_0, hx132_1, hx132_2, hx132_3, hx132_4⟩ := at_T69 HR0.out x3_1 p132 q132
         cases e132
         replace hx132_0 := cel HB hx132_0
         replace hx132_1 := cel HB hx132_1
         replace hx132_2 := cel HB hx132_2
         replace hx132_3 := cel HB hx132_3
         replace hx132_4 := cel HB hx132_4
         replace p132 := eq_true p132
         replace q132 := eq_true q132
         go_wp2_with (first | ((with_reducible refine gate_callee (f := 86) rfl ?_); refine goesL_ (some 18) rfl rfl Try.func86 (by kernel_rfl) rfl #[.agg #[.string ((rd_T69 l0 x3_1).f0), .int .i64 ((rd_T69 l0 x3_1).f1), .int .i64 ((rd_T69 l0 x3_1).f2), .int .i64 ((rd_T69 l0 x3_1).f3), .int .i64 ((rd_T69 l0 x3_1).f4)]] rfl gmp ?_; (with_reducible refine (spec_l2Good.calls kj1 ((rd_T69 l0 x3_1).f0) ((rd_T69 l0 x3_1).f1) ((rd_T69 l0 x3_1).f2) ((rd_T69 l0 x3_1).f3) ((rd_T69 l0 x3_1).f4) false _ A7.out).mono ?_); rintro e w13 ⟨rfl, hb⟩; refine ⟨_, rfl, ?_⟩; have n0_ := Aside0.mk (below_step (bel HB) hb); clear HB; have HB := n0_; clear n0_; (try clear hb); (try clear hb2); (try clear hk); (try clear hi)))
         go_ret
         exact ⟨by first | rfl | (simp [errW_none, errW_some] <;> rfl) | (simp [*, errW_none, errW_some] <;> rfl), bel HB⟩
       ·rw [if_neg c6] at H
        exact absurd H (by simp)
      ·rw [if_neg c5] at H
       exact absurd H (by simp)
     ·replace c4 := Bool.eq_false_iff.mpr c4
      subst c4
      have H1 : (some (decide ((l0.length : Int) ≤ 12))) = some r := by rw [if_neg (show ¬ (false = true) by decide)] at H; exact H
      clear H
      have H := H1
      clear H1
      obtain rfl := Option.some.inj H
      go_wp2
      go_ret
      exact ⟨by first | rfl | (simp [errW_none, errW_some] <;> rfl) | (simp [*, errW_none, errW_some] <;> rfl), bel HB⟩

end Go.Proofs.Ytmpmcckjpkijnaa.P
