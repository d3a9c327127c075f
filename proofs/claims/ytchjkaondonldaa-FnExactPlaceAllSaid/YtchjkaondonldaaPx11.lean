-- Written by a program of this session over the translation (a variant of the printer, see wip/gen); Lean checks it.
import Derived.Test.YtchjkaondonldaaPx0
import Derived.Test.YtchjkaondonldaaPx10
namespace Go.Proofs.Ytchjkaondonldaa.P
open Go.RowKit Go.Proofs.YtchjkaondonldaaW.PrintWords Go.Proofs.YtchjkaondonldaaW.PrintLast Go.Proofs.YtchjkaondonldaaW.PrintMore
attribute [local go_sem] Go.Proofs.Ytchjkaondonldaa.V.isSome_setCell max2_int min2_int max_two min_two max_three min_three max_four min_four   -- for this text's walks alone
set_option linter.unusedVariables false
set_option linter.unusedSimpArgs false

/-! ### spec_l1Has: function 81 -/
def spec_l1Has.l0 : Nat → List Int → Int → Int → Option (Bool)
 | 0, _, _, _ => none
 | k + 1, x0, x1, x5 => if x5 < (x0.length : Int) then (if 0 ≤ x5 then (if (rd x0 x5) = x1 then (some true) else (spec_l1Has.l0 k x0 x1 (wrap64 (x5 + 1)))) else (none)) else (some false)
def spec_l1Has.f (k : Nat) (l0 : List Int) (a1 : Int) : Option (Bool) := spec_l1Has.l0 k l0 a1 0
theorem spec_l1Has.mono_l : ∀ k, (∀ y0 y1 y2, LeO (spec_l1Has.l0 k y0 y1 y2) (spec_l1Has.l0 (k + 1) y0 y1 y2))
 | 0 => fun _ _ _ r h => by simp [spec_l1Has.l0] at h
 | k + 1 => by
  have ih0 := spec_l1Has.mono_l k
  ·intro y0 y1 y2
   unfold spec_l1Has.l0
   repeat' first
   | (with_reducible exact ih0 _ _ _)
   | (with_reducible exact LeO.refl _)
   | (with_reducible exact LeO.none _)
   | (with_reducible refine LeO.ite ?_ ?_)
   | (with_reducible refine LeO.bind ?_ (fun _ => ?_))
   | exact ih0 _ _ _
   | exact LeO.none _
   | refine LeO.ite ?_ ?_
   | refine LeO.bind ?_ (fun _ => ?_)
theorem spec_l1Has.mono : ∀ a0 a1 k, LeO (spec_l1Has.f k a0 a1) (spec_l1Has.f (k + 1) a0 a1) := by
 intro a0 a1 k
 have ih0 := spec_l1Has.mono_l k
 unfold spec_l1Has.f
 repeat' first
   | (with_reducible exact ih0 _ _ _)
   | (with_reducible exact LeO.refl _)
   | (with_reducible exact LeO.none _)
   | (with_reducible refine LeO.ite ?_ ?_)
   | (with_reducible refine LeO.bind ?_ (fun _ => ?_))
   | exact ih0 _ _ _
   | exact LeO.none _
   | refine LeO.ite ?_ ?_
   | refine LeO.bind ?_ (fun _ => ?_)
set_option maxHeartbeats 8000000 in
set_option maxRecDepth 100000 in
theorem spec_l1Has.calls (k : Nat) (A0 : Option Addr) (c0 : Nat) (l0 : List Int) (a1 : Int) (r : Bool) (w : World) (hr0 : Kd.C (Kd.int .i64) w A0 l0.length l0) (hc0 : l0.length ≤ c0) (h : spec_l1Has.f k l0 a1 = some r) :
  Calls Try.prog 81 #[.slice A0 l0.length c0, .int .i64 a1] w fun e w' => e = .returned (.bool r) ∧ Drawn0 w w' := by
 have HR0 := Aside0.mk hr0
 have HC0 := Aside0.mk hc0
 clear hr0 hc0
 have H : (spec_l1Has.l0 k l0 a1 0) = some r := h
 clear h
 have H' := Aside0.mk H
 clear H
 go_enter Try.func81, Try.ntmps81
 go_wp2
 go_loopg [5] k (fun kq v5 w' => ∃ (x5_1 : Int), v5 = .int .i64 x5_1 ∧ Aside0 (spec_l1Has.l0 kq l0 a1 x5_1 = some r) ∧ Aside0 (kq ≤ k) ∧ Drawn0 w w')
 case atStart => exact ⟨(0), (by first | rfl | (simp; done) | (simp [*]; done)), H', ⟨Nat.le_refl _⟩, by repeat (first | exact Drawn0.refl _ | apply Drawn0.step)⟩
 case round =>
  clear H'
  try clear p2
  obtain ⟨x5_1, rfl, HA, HK1, ⟨m1, rfl⟩⟩ := hrel
  cases gk with
  | zero => exact absurd HA.out (by simp [spec_l1Has.l0])
  | succ k1 =>
   have H := HA.out
   clear HA
   simp only [spec_l1Has.l0] at H
   by_cases c3 : x5_1 < (l0.length : Int)
   ·rw [if_pos c3] at H
    have c3b0 : decide (x5_1 < (l0.length : Int)) = true := decide_eq_true c3
    clear c3
    by_cases c4 : 0 ≤ x5_1
    ·rw [if_pos c4] at H
     have c4b0 : decide (0 ≤ x5_1) = true := decide_eq_true c4
     clear c4
     by_cases c5 : (rd l0 x5_1) = a1
     ·rw [if_pos c5] at H
      have c5b0 : ((rd l0 x5_1) == a1) = true := beq_iff_eq.mpr c5
      have c5b1 : ((rd l0 x5_1) != a1) = false := bne_eq_false_iff_eq.mpr c5
      clear c5
      obtain rfl := Option.some.inj H
      have p190 : 0 ≤ (x5_1 : Int) := oda
      have q190 : x5_1 < (l0.length : Int) := oda
      obtain ⟨ad190, e190, hx190_0⟩ := Kd.at_int HR0.out x5_1 p190 q190
      cases e190
      replace p190 := eq_true p190
      replace q190 := eq_true q190
      go_wp2
      go_ret
      exact ⟨by first | rfl | (simp; done) | (simp [*]; done), by repeat (first | exact Drawn0.refl _ | apply Drawn0.step)⟩
     ·rw [if_neg c5] at H
      have c5b0 : ((rd l0 x5_1) == a1) = false := beq_eq_false_iff_ne.mpr c5
      have c5b1 : ((rd l0 x5_1) != a1) = true := bne_iff_ne.mpr c5
      have H' := Aside0.mk H
      clear H
      have p190 : 0 ≤ (x5_1 : Int) := oda
      have q190 : x5_1 < (l0.length : Int) := oda
      obtain ⟨ad190, e190, hx190_0⟩ := Kd.at_int HR0.out x5_1 p190 q190
      cases e190
      replace p190 := eq_true p190
      replace q190 := eq_true q190
      go_wp2
      go_roundg k1
      case measure => have := HK1.out; omega
      case rel => exact ⟨(wrap64 (x5_1 + 1)), (by first | rfl | (simp; done) | (simp [*]; done)), H', ⟨by have := HK1.out; omega⟩, by repeat (first | exact Drawn0.refl _ | apply Drawn0.step)⟩
    ·rw [if_neg c4] at H
     exact absurd H (by simp)
   ·rw [if_neg c3] at H
    have c3b0 : decide (x5_1 < (l0.length : Int)) = false := decide_eq_false c3
    clear c3
    obtain rfl := Option.some.inj H
    go_wp2
    go_ret
    exact ⟨by first | rfl | (simp; done) | (simp [*]; done), by repeat (first | exact Drawn0.refl _ | apply Drawn0.step)⟩

/-! ### spec_l5Good: function 47 -/
mutual
def spec_l5Good.l0 : Nat → List Int → Int → List (List Int) → Option (Bool)
 | 0, _, _, _ => none
 | k + 1, x3, x4, x192000 => if x4 < (x192000.length : Int) then (if 0 ≤ x4 then (if ((rd_L1 x192000 x4).length : Int) > 4 then (some false) else (spec_l5Good.l1 k x3 x4 0 x192000)) else (none)) else (some true)
def spec_l5Good.l1 : Nat → List Int → Int → Int → List (List Int) → Option (Bool)
 | 0, _, _, _, _ => none
 | k + 1, x3, x4, x5, x192000 => if 0 ≤ x4 then (if x4 < (x192000.length : Int) then (if x5 < ((rd_L1 x192000 x4).length : Int) then (if 0 ≤ x5 then ((spec_l1In.f (rd (rd_L1 x192000 x4) x5) 1 99).bind fun t200 => (if t200 = true then ((spec_l1Has.f k x3 (rd (rd_L1 x192000 x4) x5)).bind fun t201 => (if t201 = true then (some false) else (if x3.length < 17592186044416 then (spec_l5Good.l1 k (x3 ++ [rd (rd_L1 x192000 x4) x5]) x4 (wrap64 (x5 + 1)) x192000) else (none)))) else (some false))) else (none)) else (spec_l5Good.l0 k x3 (wrap64 (x4 + 1)) x192000)) else (none)) else (none)
end
def spec_l5Good.f (k : Nat) (l0_0 : List (List Int)) : Option (Bool) := (spec_l1In.f (l0_0.length : Int) 1 6).bind fun t192 => (if t192 = true then (spec_l5Good.l0 k (([] : List Int)) 0 l0_0) else (some false))
theorem spec_l5Good.mono_l : ∀ k, (∀ y0 y1 y2, LeO (spec_l5Good.l0 k y0 y1 y2) (spec_l5Good.l0 (k + 1) y0 y1 y2)) ∧ (∀ y0 y1 y2 y3, LeO (spec_l5Good.l1 k y0 y1 y2 y3) (spec_l5Good.l1 (k + 1) y0 y1 y2 y3))
 | 0 => ⟨fun _ _ _ r h => by simp [spec_l5Good.l0] at h, fun _ _ _ _ r h => by simp [spec_l5Good.l1] at h⟩
 | k + 1 => by
  obtain ⟨ih0, ih1⟩ := spec_l5Good.mono_l k
  refine ⟨?_, ?_⟩
  ·intro y0 y1 y2
   unfold spec_l5Good.l0
   repeat' first
   | (with_reducible exact ih0 _ _ _)
   | (with_reducible exact ih1 _ _ _ _)
   | (with_reducible exact spec_l1Has.mono _ _ _)
   | (with_reducible exact LeO.refl _)
   | (with_reducible exact LeO.none _)
   | (with_reducible refine LeO.ite ?_ ?_)
   | (with_reducible refine LeO.bind ?_ (fun _ => ?_))
   | exact ih0 _ _ _
   | exact ih1 _ _ _ _
   | exact spec_l1Has.mono _ _ _
   | exact LeO.none _
   | refine LeO.ite ?_ ?_
   | refine LeO.bind ?_ (fun _ => ?_)
  ·intro y0 y1 y2 y3
   unfold spec_l5Good.l1
   repeat' first
   | (with_reducible exact ih0 _ _ _)
   | (with_reducible exact ih1 _ _ _ _)
   | (with_reducible exact spec_l1Has.mono _ _ _)
   | (with_reducible exact LeO.refl _)
   | (with_reducible exact LeO.none _)
   | (with_reducible refine LeO.ite ?_ ?_)
   | (with_reducible refine LeO.bind ?_ (fun _ => ?_))
   | exact ih0 _ _ _
   | exact ih1 _ _ _ _
   | exact spec_l1Has.mono _ _ _
   | exact LeO.none _
   | refine LeO.ite ?_ ?_
   | refine LeO.bind ?_ (fun _ => ?_)
theorem spec_l5Good.mono : ∀ a0 k, LeO (spec_l5Good.f k a0) (spec_l5Good.f (k + 1) a0) := by
 intro a0 k
 obtain ⟨ih0, ih1⟩ := spec_l5Good.mono_l k
 unfold spec_l5Good.f
 repeat' first
   | (with_reducible exact ih0 _ _ _)
   | (with_reducible exact ih1 _ _ _ _)
   | (with_reducible exact spec_l1Has.mono _ _ _)
   | (with_reducible exact LeO.refl _)
   | (with_reducible exact LeO.none _)
   | (with_reducible refine LeO.ite ?_ ?_)
   | (with_reducible refine LeO.bind ?_ (fun _ => ?_))
   | exact ih0 _ _ _
   | exact ih1 _ _ _ _
   | exact spec_l1Has.mono _ _ _
   | exact LeO.none _
   | refine LeO.ite ?_ ?_
   | refine LeO.bind ?_ (fun _ => ?_)
set_option maxHeartbeats 8000000 in
set_option maxRecDepth 100000 in
theorem spec_l5Good.calls (k : Nat) (A0_0 : Option Addr) (c0_0 : Nat) (l0_0 : List (List Int)) (r : Bool) (w : World) (hr0_0 : Kd.C (Kd.slice 3 (Kd.int .i64)) w A0_0 l0_0.length l0_0) (hc0_0 : l0_0.length ≤ c0_0) (h : spec_l5Good.f k l0_0 = some r) :
  Calls Try.prog 47 #[.agg #[.slice A0_0 l0_0.length c0_0]] w fun e w' => e = .returned (.bool r) ∧ Below w.heap.size w w' := by
 have hu28 := Try.underlying28
 have HR0_0 := Aside0.mk hr0_0
 have HC0_0 := Aside0.mk hc0_0
 clear hr0_0 hc0_0
 have HB := Aside0.mk (Below.refl w.heap.size w)
 have H : ((spec_l1In.f (l0_0.length : Int) 1 6).bind fun t192 => (if t192 = true then (spec_l5Good.l0 k (([] : List Int)) 0 l0_0) else (some false))) = some r := h
 clear h
 replace H := Option.bind_eq_some_iff.mp H
 obtain ⟨t192, A20, H⟩ := H
 replace H : (if t192 = true then (spec_l5Good.l0 k (([] : List Int)) 0 l0_0) else (some false)) = some r := H
 have A2 := Aside0.mk A20
 clear A20
 by_cases c3 : t192 = true
 ·subst c3
  have H1 : (spec_l5Good.l0 k (([] : List Int)) 0 l0_0) = some r := by rw [if_pos rfl] at H; exact H
  clear H
  have H := H1
  clear H1
  obtain ⟨y193, hy193⟩ : ∃ y_ : List Int, y_ = (([] : List Int)) := ⟨_, rfl⟩
  replace H : (spec_l5Good.l0 k y193 0 l0_0) = some r := by first | (rw [hy193]; with_reducible exact H) | (have H2_ := (Option.bind_some _ _).symm.trans H; rw [hy193]; with_reducible exact H2_) | (have H2_ := (Option.bind_some _ _).symm.trans H; with_reducible exact H2_) | with_reducible exact H | (rw [hy193]; exact H) | exact H
  have Ny193 := Aside0.mk hy193
  clear hy193
  have H' := Aside0.mk H
  clear H
  go_enter Try.func47, Try.ntmps47
  go_wp2_with (first | ((with_reducible refine gate_dst (N := 1) rfl ?_); refine box_event ?hg (N := 1) ?hd (cs := #[.slice A0_0 l0_0.length c0_0]) (t := 28) ?hr ?_; (case hd => rfl); (case hg => rfl); (case hr => first | (go_simp; done) | (go_simp; rfl)); intro gb191 hg w4 hbox hb; have n0_ := Aside0.mk (below_step (bel HB) hb); have n1_ := Aside0.mk (hbox); have n2_ := Aside0.mk ((by rw [hg]; exact (below_size (bel HB)) : w.heap.size ≤ gb191)); have n3_ := Aside0.mk ((by rw [hg]; exact (below_size (bel HB)) : w.heap.size ≤ gb191)); clear HB; have HB := n0_; have BK191 := n1_; have GW191 := n2_; have GE191 := n3_; clear n0_ n1_ n2_ n3_; clear hb hbox hg; have hcz5_0 : w4.cell? ⟨gb191, 0, none⟩ = some (.slice A0_0 l0_0.length c0_0) := (blk_cell BK191.out 0).trans rfl; have hfz5_0 := blk_frozen BK191.out 0) | ((with_reducible refine gate_callee (f := 73) rfl ?_); refine goesL_ (some 10) rfl rfl Try.func73 (by kernel_rfl) rfl #[.int .i64 (l0_0.length : Int), .int .i64 1, .int .i64 6] rfl gmp ?_; (with_reducible refine (spec_l1In.calls (l0_0.length : Int) 1 6 true _ A2.out).mono ?_); rintro e w' ⟨rfl, ⟨nd, rfl⟩⟩; refine ⟨_, rfl, ?_⟩) | ((with_reducible refine gate_dst (N := 12) rfl ?_); refine Kd.R_lit (Kd.int .i64) _ 3 ?hg (N := 12) ?hd (xs := ([] : List Int)) (inner := []) (ok := fun _ => True) (okp := fun _ => True) ?hr ?hp (fun _ hk => hk) trivial (Below.refl _ _) (Nat.le_refl _) (by simp) ?_; (case hd => rfl); (case hg => rfl); (case hr => first | (go_simp; done) | (go_simp; rfl)); (case hp => exact (Reps.none _ _)); intro v194 w6 ho7 hb hg_ hnew_; clear hg_ hnew_; (first | rw [← Ny193.out] at ho7 | (simp only [Int.reduceToNat] at ho7; rw [← Ny193.out] at ho7)); have n0_ := Aside0.mk (Kd.R_lower ho7 (below_size (bel1 HB GE191))); have n1_ := Aside0.mk (blk_below (g := gb191) (o := .cells #[.slice A0_0 l0_0.length c0_0] 28 (0, 0)) (bkl BK191) hb); have n2_ := Aside0.mk (below_step (bel1 HB GE191) hb); clear BK191; clear HB; have HO195 := n0_; have BK191 := n1_; have HB := n2_; clear n0_ n1_ n2_; clear hb ho7))
  go_loopg [3, 4] k (fun kq v3 v4 w' => ∃ (x3_1 : List Int) (x4_1 : Int), v4 = .int .i64 x4_1 ∧ Aside0 (spec_l5Good.l0 kq x3_1 x4_1 l0_0 = some r) ∧ Aside0 (kq ≤ k) ∧ Aside0 (Kd.R (Kd.int .i64) 3 w' w.heap.size (fun _ => True) v3 x3_1) ∧ Aside0 (w'.heap[gb191]? = some (.cells #[(.slice A0_0 l0_0.length c0_0)] 28 (0, 0))) ∧ Aside0 (Below w.heap.size w w'))
  case atStart => exact ⟨(y193), (0), (by first | rfl | (simp; done) | (simp [*]; done)), H', ⟨Nat.le_refl _⟩, ⟨rdl HO195⟩, ⟨bkl BK191⟩, ⟨bel1 HB GE191⟩⟩
  case round =>
   clear H'
   try clear p2
   try clear c3
   try clear c4
   try clear c7
   try clear hcz5_0
   try clear hfz5_0
   obtain ⟨x3_1, x4_1, rfl, HA, HK1, HO_3, BK191, HB⟩ := hrel
   cases gk with
   | zero => exact absurd HA.out (by simp [spec_l5Good.l0])
   | succ k1 =>
    have H := HA.out
    clear HA
    simp only [spec_l5Good.l0] at H
    by_cases c8 : x4_1 < (l0_0.length : Int)
    ·rw [if_pos c8] at H
     have c8b0 : decide (x4_1 < (l0_0.length : Int)) = true := decide_eq_true c8
     clear c8
     by_cases c9 : 0 ≤ x4_1
     ·rw [if_pos c9] at H
      have c9b0 : decide (0 ≤ x4_1) = true := decide_eq_true c9
      clear c9
      by_cases c10 : ((rd_L1 l0_0 x4_1).length : Int) > 4
      ·rw [if_pos c10] at H
       have c10b0 : decide (4 < ((rd_L1 l0_0 x4_1).length : Int)) = true := decide_eq_true c10
       have c10b1 : decide (4 < (rd_L1 l0_0 x4_1).length) = true := decide_eq_true (by omega)
       clear c10
       obtain rfl := Option.some.inj H
       have hcz11_0 : wr.cell? ⟨gb191, 0, none⟩ = some (.slice A0_0 l0_0.length c0_0) := (blk_cell BK191.out 0).trans rfl
       have hfz11_0 := blk_frozen BK191.out 0
       have p196 : 0 ≤ (x4_1 : Int) := oda
       have q196 : x4_1 < (l0_0.length : Int) := oda
       obtain ⟨ad196, A196_0, c196_0, e196, hx196_0, hl196_0, hi196_0⟩ := at_L1 HR0_0.out x4_1 p196 q196
       cases e196
       replace hx196_0 := cel HB hx196_0
       have HR196_0 := Aside0.mk hi196_0
       have HC196_0 := Aside0.mk hl196_0
       clear hi196_0 hl196_0
       replace p196 := eq_true p196
       replace q196 := eq_true q196
       go_wp2
       go_ret
       exact ⟨by first | rfl | (simp [errW_none, errW_some] <;> rfl) | (simp [*, errW_none, errW_some] <;> rfl), bel1 HB GE191⟩
      ·rw [if_neg c10] at H
       have c10b0 : decide (4 < ((rd_L1 l0_0 x4_1).length : Int)) = false := decide_eq_false c10
       have c10b1 : decide (4 < (rd_L1 l0_0 x4_1).length) = false := decide_eq_false (by omega)
       clear c10
       have H' := Aside0.mk H
       clear H
       have hcz12_0 : wr.cell? ⟨gb191, 0, none⟩ = some (.slice A0_0 l0_0.length c0_0) := (blk_cell BK191.out 0).trans rfl
       have hfz12_0 := blk_frozen BK191.out 0
       have p196 : 0 ≤ (x4_1 : Int) := oda
       have q196 : x4_1 < (l0_0.length : Int) := oda
       obtain ⟨ad196, A196_0, c196_0, e196, hx196_0, hl196_0, hi196_0⟩ := at_L1 HR0_0.out x4_1 p196 q196
       cases e196
       replace hx196_0 := cel HB hx196_0
       have HR196_0 := Aside0.mk hi196_0
       have HC196_0 := Aside0.mk hl196_0
       clear hi196_0 hl196_0
       replace p196 := eq_true p196
       replace q196 := eq_true q196
       go_wp2
       go_loopg [3, 5] k1 (fun kq v3 v5 w' => ∃ (x3_2 : List Int) (x5_2 : Int), v5 = .int .i64 x5_2 ∧ Aside0 (spec_l5Good.l1 kq x3_2 x4_1 x5_2 l0_0 = some r) ∧ Aside0 (kq ≤ k1) ∧ Aside0 (Kd.R (Kd.int .i64) 3 w' w.heap.size (fun _ => True) v3 x3_2) ∧ Aside0 (w'.heap[gb191]? = some (.cells #[(.slice (some ad196) l0_0.length c0_0)] 28 (0, 0))) ∧ Aside0 (Below w.heap.size w w'))
       case atStart => exact ⟨(x3_1), (0), (by first | rfl | (simp; done) | (simp [*]; done)), H', ⟨Nat.le_refl _⟩, ⟨rdl HO_3⟩, ⟨bkl BK191⟩, ⟨bel1 HB GE191⟩⟩
       case round =>
        clear H'
        try clear c1
        try clear p1
        try clear q1
        try clear hx1
        try clear p2
        try clear c3
        try clear c4
        try clear c7
        try clear c8
        try clear c8b0
        try clear c9
        try clear c9b0
        try clear c10
        try clear c10b0
        try clear c10b1
        try clear hcz11_0
        try clear hcz12_0
        try clear hcz5_0
        try clear hfz11_0
        try clear hfz12_0
        try clear hfz5_0
        try clear hx196_0
        try clear p196
        try clear p2
        try clear q196
        obtain ⟨x3_2, x5_2, rfl, HA, HK2, HO_3, BK191, HB⟩ := hrel
        cases gk with
        | zero => exact absurd HA.out (by simp [spec_l5Good.l1])
        | succ k2 =>
         have H := HA.out
         clear HA
         simp only [spec_l5Good.l1] at H
         by_cases c13 : 0 ≤ x4_1
         ·rw [if_pos c13] at H
          have c13b0 : decide (0 ≤ x4_1) = true := decide_eq_true c13
          clear c13
          by_cases c14 : x4_1 < (l0_0.length : Int)
          ·rw [if_pos c14] at H
           have c14b0 : decide (x4_1 < (l0_0.length : Int)) = true := decide_eq_true c14
           clear c14
           by_cases c15 : x5_2 < ((rd_L1 l0_0 x4_1).length : Int)
           ·rw [if_pos c15] at H
            have c15b0 : decide (x5_2 < ((rd_L1 l0_0 x4_1).length : Int)) = true := decide_eq_true c15
            clear c15
            by_cases c16 : 0 ≤ x5_2
            ·rw [if_pos c16] at H
             have c16b0 : decide (0 ≤ x5_2) = true := decide_eq_true c16
             clear c16
             replace H := Option.bind_eq_some_iff.mp H
             obtain ⟨t200, A170, H⟩ := H
             replace H : (if t200 = true then ((spec_l1Has.f k2 x3_2 (rd (rd_L1 l0_0 x4_1) x5_2)).bind fun t201 => (if t201 = true then (some false) else (if x3_2.length < 17592186044416 then (spec_l5Good.l1 k2 (x3_2 ++ [rd (rd_L1 l0_0 x4_1) x5_2]) x4_1 (wrap64 (x5_2 + 1)) l0_0) else (none)))) else (some false)) = some r := H
             have A17 := Aside0.mk A170
             clear A170
             by_cases c18 : t200 = true
             ·subst c18
              have H1 : ((spec_l1Has.f k2 x3_2 (rd (rd_L1 l0_0 x4_1) x5_2)).bind fun t201 => (if t201 = true then (some false) else (if x3_2.length < 17592186044416 then (spec_l5Good.l1 k2 (x3_2 ++ [rd (rd_L1 l0_0 x4_1) x5_2]) x4_1 (wrap64 (x5_2 + 1)) l0_0) else (none)))) = some r := by rw [if_pos rfl] at H; exact H
              clear H
              have H := H1
              clear H1
              replace H := Option.bind_eq_some_iff.mp H
              obtain ⟨t201, A190, H⟩ := H
              replace H : (if t201 = true then (some false) else (if x3_2.length < 17592186044416 then (spec_l5Good.l1 k2 (x3_2 ++ [rd (rd_L1 l0_0 x4_1) x5_2]) x4_1 (wrap64 (x5_2 + 1)) l0_0) else (none))) = some r := H
              have A19 := Aside0.mk A190
              clear A190
              by_cases c20 : t201 = true
              ·subst c20
               have H1 : (some false) = some r := by rw [if_pos rfl] at H; exact H
               clear H
               have H := H1
               clear H1
               obtain rfl := Option.some.inj H
               have hcz21_0 : wr.cell? ⟨gb191, 0, none⟩ = some (.slice (some ad196) l0_0.length c0_0) := (blk_cell BK191.out 0).trans rfl
               have hfz21_0 := blk_frozen BK191.out 0
               have p197 : 0 ≤ (x4_1 : Int) := oda
               have q197 : x4_1 < (l0_0.length : Int) := oda
               obtain ⟨ad197, A197_0, c197_0, e197, hx197_0, hl197_0, hi197_0⟩ := at_L1 HR0_0.out x4_1 p197 q197
               obtain rfl : ad196 = ad197 := (by injection e197)
               replace hx197_0 := cel HB hx197_0
               have HR197_0 := Aside0.mk hi197_0
               have HC197_0 := Aside0.mk hl197_0
               clear hi197_0 hl197_0
               replace p197 := eq_true p197
               replace q197 := eq_true q197
               have p198 : 0 ≤ (x4_1 : Int) := oda
               have q198 : x4_1 < (l0_0.length : Int) := oda
               obtain ⟨ad198, A198_0, c198_0, e198, hx198_0, hl198_0, hi198_0⟩ := at_L1 HR0_0.out x4_1 p198 q198
               obtain rfl : ad196 = ad198 := (by injection e198)
               replace hx198_0 := cel HB hx198_0
               have HR198_0 := Aside0.mk hi198_0
               have HC198_0 := Aside0.mk hl198_0
               clear hi198_0 hl198_0
               replace p198 := eq_true p198
               replace q198 := eq_true q198
               have ea_ := Option.some.inj (hx197_0.symm.trans hx198_0)
               injection ea_ with ea_ en_ ec_
               subst ea_
               subst ec_
               clear en_
               have p199 : 0 ≤ (x5_2 : Int) := oda
               have q199 : x5_2 < ((rd_L1 l0_0 x4_1).length : Int) := oda
               obtain ⟨ad199, e199, hx199_0⟩ := Kd.at_int HR198_0.out x5_2 p199 q199
               cases e199
               replace hx199_0 := cel HB hx199_0
               replace p199 := eq_true p199
               replace q199 := eq_true q199
               go_wp2_with (first | ((with_reducible refine gate_callee (f := 73) rfl ?_); refine goesL_ (some 46) rfl rfl Try.func73 (by kernel_rfl) rfl #[.int .i64 (rd (rd_L1 l0_0 x4_1) x5_2), .int .i64 1, .int .i64 99] rfl gmp ?_; (with_reducible refine (spec_l1In.calls (rd (rd_L1 l0_0 x4_1) x5_2) 1 99 true _ A17.out).mono ?_); rintro e w' ⟨rfl, ⟨nd, rfl⟩⟩; refine ⟨_, rfl, ?_⟩; obtain ⟨Ao22, co22, eo22⟩ := Kd.R_slice HO_3.out; subst eo22) | (go_at_call 81; (with_reducible refine (spec_l1Has.calls k2 _ _ x3_2 (rd (rd_L1 l0_0 x4_1) x5_2) true _ ?side1 ?side2 A19.out).mono ?_); (case side1 => repeat (first | exact (Kd.R_reads' HO_3.out).2.2 | (with_reducible refine Kd.C_alloc ?_ _) | (with_reducible refine Kd.C_drewN ?_ _) | (with_reducible refine Kd.C_drew ?_))); (case side2 => exact (Kd.R_reads' HO_3.out).2.1); rintro e w' ⟨rfl, ⟨nd, rfl⟩⟩))
               go_ret
               exact ⟨by first | rfl | (simp [errW_none, errW_some] <;> rfl) | (simp [*, errW_none, errW_some] <;> rfl), bel1 HB GE191⟩
              ·replace c20 := Bool.eq_false_iff.mpr c20
               subst c20
               have H1 : (if x3_2.length < 17592186044416 then (spec_l5Good.l1 k2 (x3_2 ++ [rd (rd_L1 l0_0 x4_1) x5_2]) x4_1 (wrap64 (x5_2 + 1)) l0_0) else (none)) = some r := by rw [if_neg (show ¬ (false = true) by decide)] at H; exact H
               clear H
               have H := H1
               clear H1
               by_cases c23 : x3_2.length < 17592186044416
               ·rw [if_pos c23] at H
                have LMc23 := Aside0.mk c23
                clear c23
                obtain ⟨y202, hy202⟩ : ∃ y_ : List Int, y_ = (x3_2 ++ [rd (rd_L1 l0_0 x4_1) x5_2]) := ⟨_, rfl⟩
                replace H : (spec_l5Good.l1 k2 y202 x4_1 (wrap64 (x5_2 + 1)) l0_0) = some r := by first | (rw [hy202]; with_reducible exact H) | (have H2_ := (Option.bind_some _ _).symm.trans H; rw [hy202]; with_reducible exact H2_) | (have H2_ := (Option.bind_some _ _).symm.trans H; with_reducible exact H2_) | with_reducible exact H | (rw [hy202]; exact H) | exact H
                have Ny202 := Aside0.mk hy202
                clear hy202
                have H' := Aside0.mk H
                clear H
                have hcz24_0 : wr.cell? ⟨gb191, 0, none⟩ = some (.slice (some ad196) l0_0.length c0_0) := (blk_cell BK191.out 0).trans rfl
                have hfz24_0 := blk_frozen BK191.out 0
                have p197 : 0 ≤ (x4_1 : Int) := oda
                have q197 : x4_1 < (l0_0.length : Int) := oda
                obtain ⟨ad197, A197_0, c197_0, e197, hx197_0, hl197_0, hi197_0⟩ := at_L1 HR0_0.out x4_1 p197 q197
                obtain rfl : ad196 = ad197 := (by injection e197)
                replace hx197_0 := cel HB hx197_0
                have HR197_0 := Aside0.mk hi197_0
                have HC197_0 := Aside0.mk hl197_0
                clear hi197_0 hl197_0
                replace p197 := eq_true p197
                replace q197 := eq_true q197
                have p198 : 0 ≤ (x4_1 : Int) := oda
                have q198 : x4_1 < (l0_0.length : Int) := oda
                obtain ⟨ad198, A198_0, c198_0, e198, hx198_0, hl198_0, hi198_0⟩ := at_L1 HR0_0.out x4_1 p198 q198
                obtain rfl : ad196 = ad198 := (by injection e198)
                replace hx198_0 := cel HB hx198_0
                have HR198_0 := Aside0.mk hi198_0
                have HC198_0 := Aside0.mk hl198_0
                clear hi198_0 hl198_0
                replace p198 := eq_true p198
                replace q198 := eq_true q198
                have ea_ := Option.some.inj (hx197_0.symm.trans hx198_0)
                injection ea_ with ea_ en_ ec_
                subst ea_
                subst ec_
                clear en_
                have p199 : 0 ≤ (x5_2 : Int) := oda
                have q199 : x5_2 < ((rd_L1 l0_0 x4_1).length : Int) := oda
                obtain ⟨ad199, e199, hx199_0⟩ := Kd.at_int HR198_0.out x5_2 p199 q199
                cases e199
                replace hx199_0 := cel HB hx199_0
                replace p199 := eq_true p199
                replace q199 := eq_true q199
                go_wp2_with (first | ((with_reducible refine gate_callee (f := 73) rfl ?_); refine goesL_ (some 46) rfl rfl Try.func73 (by kernel_rfl) rfl #[.int .i64 (rd (rd_L1 l0_0 x4_1) x5_2), .int .i64 1, .int .i64 99] rfl gmp ?_; (with_reducible refine (spec_l1In.calls (rd (rd_L1 l0_0 x4_1) x5_2) 1 99 true _ A17.out).mono ?_); rintro e w' ⟨rfl, ⟨nd, rfl⟩⟩; refine ⟨_, rfl, ?_⟩; obtain ⟨Ao25, co25, eo25⟩ := Kd.R_slice HO_3.out; subst eo25) | (go_at_call 81; (with_reducible refine (spec_l1Has.calls k2 _ _ x3_2 (rd (rd_L1 l0_0 x4_1) x5_2) false _ ?side1 ?side2 A19.out).mono ?_); (case side1 => repeat (first | exact (Kd.R_reads' HO_3.out).2.2 | (with_reducible refine Kd.C_alloc ?_ _) | (with_reducible refine Kd.C_drewN ?_ _) | (with_reducible refine Kd.C_drew ?_))); (case side2 => exact (Kd.R_reads' HO_3.out).2.1); rintro e w' ⟨rfl, ⟨nd, rfl⟩⟩) | ((with_reducible refine gate_builtin (b := .append) (xs := #[.tmp 53, .tmp 55]) rfl ?_); at_builtin; refine Kd.R_append (Kd.int .i64) (w0 := w) w.heap.size rfl (.tmp 53) (.tmp 55) 35 3 (.int .i64 0) 8 rfl Try.underlying35 info3 rfl (by decide) (by omega) (.slice Ao25 x3_2.length co25) x3_2 (rd (rd_L1 l0_0 x4_1) x5_2) [.int .i64 (rd (rd_L1 l0_0 x4_1) x5_2)] (fun _ => True) (fun _ => False) rfl rfl ?aP (fun _ hk => hk.elim) ?aF ?aO ?aB ?aS ?aL ?_; (case aP => exact rfl); (case aB => exact (bel1 HB GE191)); (case aF => exact (fun _ _ => trivial)); (case aO => exact (rdl HO_3)); (case aS => exact (below_size (bel1 HB GE191))); (case aL => have := LMc23.out; omega); intro v203 w26 ho hb hg hat; rw [← Ny202.out] at ho; have n0_ := Aside0.mk (blk_grown (g := gb191) (o := .cells #[.slice (some ad196) l0_0.length c0_0] 28 (0, 0)) (bkl BK191) hg (Kd.R_ne HO_3.out BK191.out (by decide))); have n1_ := Aside0.mk (hb); have n2_ := Aside0.mk (ho); clear BK191; clear HB; clear HO_3; have BK191 := n0_; have HB := n1_; have HO204 := n2_; clear n0_ n1_ n2_; clear ho hb hg hat))
                go_roundg k2
                case measure => have := HK1.out; have := HK2.out; omega
                case rel => exact ⟨(y202), (wrap64 (x5_2 + 1)), (by first | rfl | (simp; done) | (simp [*]; done)), H', ⟨by have := HK1.out; have := HK2.out; omega⟩, ⟨rdl HO204⟩, ⟨bkl BK191⟩, ⟨bel1 HB GE191⟩⟩
               ·rw [if_neg c23] at H
                exact absurd H (by simp)
             ·replace c18 := Bool.eq_false_iff.mpr c18
              subst c18
              have H1 : (some false) = some r := by rw [if_neg (show ¬ (false = true) by decide)] at H; exact H
              clear H
              have H := H1
              clear H1
              obtain rfl := Option.some.inj H
              have hcz27_0 : wr.cell? ⟨gb191, 0, none⟩ = some (.slice (some ad196) l0_0.length c0_0) := (blk_cell BK191.out 0).trans rfl
              have hfz27_0 := blk_frozen BK191.out 0
              have p197 : 0 ≤ (x4_1 : Int) := oda
              have q197 : x4_1 < (l0_0.length : Int) := oda
              obtain ⟨ad197, A197_0, c197_0, e197, hx197_0, hl197_0, hi197_0⟩ := at_L1 HR0_0.out x4_1 p197 q197
              obtain rfl : ad196 = ad197 := (by injection e197)
              replace hx197_0 := cel HB hx197_0
              have HR197_0 := Aside0.mk hi197_0
              have HC197_0 := Aside0.mk hl197_0
              clear hi197_0 hl197_0
              replace p197 := eq_true p197
              replace q197 := eq_true q197
              have p198 : 0 ≤ (x4_1 : Int) := oda
              have q198 : x4_1 < (l0_0.length : Int) := oda
              obtain ⟨ad198, A198_0, c198_0, e198, hx198_0, hl198_0, hi198_0⟩ := at_L1 HR0_0.out x4_1 p198 q198
              obtain rfl : ad196 = ad198 := (by injection e198)
              replace hx198_0 := cel HB hx198_0
              have HR198_0 := Aside0.mk hi198_0
              have HC198_0 := Aside0.mk hl198_0
              clear hi198_0 hl198_0
              replace p198 := eq_true p198
              replace q198 := eq_true q198
              have ea_ := Option.some.inj (hx197_0.symm.trans hx198_0)
              injection ea_ with ea_ en_ ec_
              subst ea_
              subst ec_
              clear en_
              have p199 : 0 ≤ (x5_2 : Int) := oda
              have q199 : x5_2 < ((rd_L1 l0_0 x4_1).length : Int) := oda
              obtain ⟨ad199, e199, hx199_0⟩ := Kd.at_int HR198_0.out x5_2 p199 q199
              cases e199
              replace hx199_0 := cel HB hx199_0
              replace p199 := eq_true p199
              replace q199 := eq_true q199
              go_wp2_with (first | ((with_reducible refine gate_callee (f := 73) rfl ?_); refine goesL_ (some 46) rfl rfl Try.func73 (by kernel_rfl) rfl #[.int .i64 (rd (rd_L1 l0_0 x4_1) x5_2), .int .i64 1, .int .i64 99] rfl gmp ?_; (with_reducible refine (spec_l1In.calls (rd (rd_L1 l0_0 x4_1) x5_2) 1 99 false _ A17.out).mono ?_); rintro e w' ⟨rfl, ⟨nd, rfl⟩⟩; refine ⟨_, rfl, ?_⟩))
              go_ret
              exact ⟨by first | rfl | (simp [errW_none, errW_some] <;> rfl) | (simp [*, errW_none, errW_some] <;> rfl), bel1 HB GE191⟩
            ·rw [if_neg c16] at H
             exact absurd H (by simp)
           ·rw [if_neg c15] at H
            have c15b0 : decide (x5_2 < ((rd_L1 l0_0 x4_1).length : Int)) = false := decide_eq_false c15
            clear c15
            have H' := Aside0.mk H
            clear H
            have hcz28_0 : wr.cell? ⟨gb191, 0, none⟩ = some (.slice (some ad196) l0_0.length c0_0) := (blk_cell BK191.out 0).trans rfl
            have hfz28_0 := blk_frozen BK191.out 0
            have p197 : 0 ≤ (x4_1 : Int) := oda
            have q197 : x4_1 < (l0_0.length : Int) := oda
            obtain ⟨ad197, A197_0, c197_0, e197, hx197_0, hl197_0, hi197_0⟩ := at_L1 HR0_0.out x4_1 p197 q197
            obtain rfl : ad196 = ad197 := (by injection e197)
            replace hx197_0 := cel HB hx197_0
            have HR197_0 := Aside0.mk hi197_0
            have HC197_0 := Aside0.mk hl197_0
            clear hi197_0 hl197_0
            replace p197 := eq_true p197
            replace q197 := eq_true q197
            go_wp2
            go_roundg k2
            case measure => have := HK1.out; have := HK2.out; omega
            case rel => exact ⟨(x3_2), (wrap64 (x4_1 + 1)), (by first | rfl | (simp; done) | (simp [*]; done)), H', ⟨by have := HK1.out; have := HK2.out; omega⟩, ⟨rdl HO_3⟩, ⟨bkl BK191⟩, ⟨bel1 HB GE191⟩⟩
          ·rw [if_neg c14] at H
           exact absurd H (by simp)
         ·rw [if_neg c13] at H
          exact absurd H (by simp)
     ·rw [if_neg c9] at H
      exact absurd H (by simp)
    ·rw [if_neg c8] at H
     have c8b0 : decide (x4_1 < (l0_0.length : Int)) = false := decide_eq_false c8
     clear c8
     obtain rfl := Option.some.inj H
     have hcz29_0 : wr.cell? ⟨gb191, 0, none⟩ = some (.slice A0_0 l0_0.length c0_0) := (blk_cell BK191.out 0).trans rfl
     have hfz29_0 := blk_frozen BK191.out 0
     go_wp2
     go_ret
     exact ⟨by first | rfl | (simp [errW_none, errW_some] <;> rfl) | (simp [*, errW_none, errW_some] <;> rfl), bel1 HB GE191⟩
 ·replace c3 := Bool.eq_false_iff.mpr c3
  subst c3
  have H1 : (some false) = some r := by rw [if_neg (show ¬ (false = true) by decide)] at H; exact H
  clear H
  have H := H1
  clear H1
  obtain rfl := Option.some.inj H
  go_enter Try.func47, Try.ntmps47
  go_wp2_with (first | ((with_reducible refine gate_dst (N := 1) rfl ?_); refine box_event ?hg (N := 1) ?hd (cs := #[.slice A0_0 l0_0.length c0_0]) (t := 28) ?hr ?_; (case hd => rfl); (case hg => rfl); (case hr => first | (go_simp; done) | (go_simp; rfl)); intro gb191 hg w30 hbox hb; have n0_ := Aside0.mk (below_step (bel HB) hb); have n1_ := Aside0.mk (hbox); have n2_ := Aside0.mk ((by rw [hg]; exact (below_size (bel HB)) : w.heap.size ≤ gb191)); have n3_ := Aside0.mk ((by rw [hg]; exact (below_size (bel HB)) : w.heap.size ≤ gb191)); clear HB; have HB := n0_; have BK191 := n1_; have GW191 := n2_; have GE191 := n3_; clear n0_ n1_ n2_ n3_; clear hb hbox hg; have hcz31_0 : w30.cell? ⟨gb191, 0, none⟩ = some (.slice A0_0 l0_0.length c0_0) := (blk_cell BK191.out 0).trans rfl; have hfz31_0 := blk_frozen BK191.out 0) | ((with_reducible refine gate_callee (f := 73) rfl ?_); refine goesL_ (some 10) rfl rfl Try.func73 (by kernel_rfl) rfl #[.int .i64 (l0_0.length : Int), .int .i64 1, .int .i64 6] rfl gmp ?_; (with_reducible refine (spec_l1In.calls (l0_0.length : Int) 1 6 false _ A2.out).mono ?_); rintro e w' ⟨rfl, ⟨nd, rfl⟩⟩; refine ⟨_, rfl, ?_⟩))
  go_ret
  exact ⟨by first | rfl | (simp [errW_none, errW_some] <;> rfl) | (simp [*, errW_none, errW_some] <;> rfl), bel1 HB GE191⟩

/-! ### spec_l5Find: function 87 -/
mutual
def spec_l5Find.l0 : Nat → Int → Int → List (List Int) → Option (Int × Int)
 | 0, _, _, _ => none
 | k + 1, x1, x6, x206000 => if x6 < (x206000.length : Int) then (spec_l5Find.l1 k x1 x6 0 x206000) else (some ((-1), (-1)))
def spec_l5Find.l1 : Nat → Int → Int → Int → List (List Int) → Option (Int × Int)
 | 0, _, _, _, _ => none
 | k + 1, x1, x6, x7, x206000 => if 0 ≤ x6 then (if x6 < (x206000.length : Int) then (if x7 < ((rd_L1 x206000 x6).length : Int) then (if 0 ≤ x7 then (if (rd (rd_L1 x206000 x6) x7) = x1 then (some (x6, x7)) else (spec_l5Find.l1 k x1 x6 (wrap64 (x7 + 1)) x206000)) else (none)) else (spec_l5Find.l0 k x1 (wrap64 (x6 + 1)) x206000)) else (none)) else (none)
end
def spec_l5Find.f (k : Nat) (l0_0 : List (List Int)) (a1 : Int) : Option (Int × Int) := spec_l5Find.l0 k a1 0 l0_0
theorem spec_l5Find.mono_l : ∀ k, (∀ y0 y1 y2, LeO (spec_l5Find.l0 k y0 y1 y2) (spec_l5Find.l0 (k + 1) y0 y1 y2)) ∧ (∀ y0 y1 y2 y3, LeO (spec_l5Find.l1 k y0 y1 y2 y3) (spec_l5Find.l1 (k + 1) y0 y1 y2 y3))
 | 0 => ⟨fun _ _ _ r h => by simp [spec_l5Find.l0] at h, fun _ _ _ _ r h => by simp [spec_l5Find.l1] at h⟩
 | k + 1 => by
  obtain ⟨ih0, ih1⟩ := spec_l5Find.mono_l k
  refine ⟨?_, ?_⟩
  ·intro y0 y1 y2
   unfold spec_l5Find.l0
   repeat' first
   | (with_reducible exact ih0 _ _ _)
   | (with_reducible exact ih1 _ _ _ _)
   | (with_reducible exact LeO.refl _)
   | (with_reducible exact LeO.none _)
   | (with_reducible refine LeO.ite ?_ ?_)
   | (with_reducible refine LeO.bind ?_ (fun _ => ?_))
   | exact ih0 _ _ _
   | exact ih1 _ _ _ _
   | exact LeO.none _
   | refine LeO.ite ?_ ?_
   | refine LeO.bind ?_ (fun _ => ?_)
  ·intro y0 y1 y2 y3
   unfold spec_l5Find.l1
   repeat' first
   | (with_reducible exact ih0 _ _ _)
   | (with_reducible exact ih1 _ _ _ _)
   | (with_reducible exact LeO.refl _)
   | (with_reducible exact LeO.none _)
   | (with_reducible refine LeO.ite ?_ ?_)
   | (with_reducible refine LeO.bind ?_ (fun _ => ?_))
   | exact ih0 _ _ _
   | exact ih1 _ _ _ _
   | exact LeO.none _
   | refine LeO.ite ?_ ?_
   | refine LeO.bind ?_ (fun _ => ?_)
theorem spec_l5Find.mono : ∀ a0 a1 k, LeO (spec_l5Find.f k a0 a1) (spec_l5Find.f (k + 1) a0 a1) := by
 intro a0 a1 k
 obtain ⟨ih0, ih1⟩ := spec_l5Find.mono_l k
 unfold spec_l5Find.f
 repeat' first
   | (with_reducible exact ih0 _ _ _)
   | (with_reducible exact ih1 _ _ _ _)
   | (with_reducible exact LeO.refl _)
   | (with_reducible exact LeO.none _)
   | (with_reducible refine LeO.ite ?_ ?_)
   | (with_reducible refine LeO.bind ?_ (fun _ => ?_))
   | exact ih0 _ _ _
   | exact ih1 _ _ _ _
   | exact LeO.none _
   | refine LeO.ite ?_ ?_
   | refine LeO.bind ?_ (fun _ => ?_)
set_option maxHeartbeats 8000000 in
set_option maxRecDepth 100000 in
theorem spec_l5Find.calls (k : Nat) (A0_0 : Option Addr) (c0_0 : Nat) (l0_0 : List (List Int)) (a1 : Int) (r1 : Int) (r2 : Int) (w : World) (hr0_0 : Kd.C (Kd.slice 3 (Kd.int .i64)) w A0_0 l0_0.length l0_0) (hc0_0 : l0_0.length ≤ c0_0) (h : spec_l5Find.f k l0_0 a1 = some (r1, r2)) :
  Calls Try.prog 87 #[.agg #[.slice A0_0 l0_0.length c0_0], .int .i64 a1] w fun e w' => e = .returned (.tuple #[.int .i64 r1, .int .i64 r2]) ∧ Below w.heap.size w w' := by
 have hu28 := Try.underlying28
 have HR0_0 := Aside0.mk hr0_0
 have HC0_0 := Aside0.mk hc0_0
 clear hr0_0 hc0_0
 have HB := Aside0.mk (Below.refl w.heap.size w)
 have H : (spec_l5Find.l0 k a1 0 l0_0) = some (r1, r2) := h
 clear h
 have H' := Aside0.mk H
 clear H
 go_enter Try.func87, Try.ntmps87
 go_wp2_with (first | ((with_reducible refine gate_dst (N := 2) rfl ?_); refine box_event ?hg (N := 2) ?hd (cs := #[.slice A0_0 l0_0.length c0_0]) (t := 28) ?hr ?_; (case hd => rfl); (case hg => rfl); (case hr => first | (go_simp; done) | (go_simp; rfl)); intro gb205 hg w3 hbox hb; have n0_ := Aside0.mk (below_step (bel HB) hb); have n1_ := Aside0.mk (hbox); have n2_ := Aside0.mk ((by rw [hg]; exact (below_size (bel HB)) : w.heap.size ≤ gb205)); have n3_ := Aside0.mk ((by rw [hg]; exact (below_size (bel HB)) : w.heap.size ≤ gb205)); clear HB; have HB := n0_; have BK205 := n1_; have GW205 := n2_; have GE205 := n3_; clear n0_ n1_ n2_ n3_; clear hb hbox hg))
 go_loopg [6] k (fun kq v6 w' => ∃ (x6_1 : Int), v6 = .int .i64 x6_1 ∧ Aside0 (spec_l5Find.l0 kq a1 x6_1 l0_0 = some (r1, r2)) ∧ Aside0 (kq ≤ k) ∧ Aside0 (w'.heap[gb205]? = some (.cells #[(.slice A0_0 l0_0.length c0_0)] 28 (0, 0))) ∧ Aside0 (Below w.heap.size w w'))
 case atStart => exact ⟨(0), (by first | rfl | (simp; done) | (simp [*]; done)), H', ⟨Nat.le_refl _⟩, ⟨bkl BK205⟩, ⟨bel1 HB GE205⟩⟩
 case round =>
  clear H'
  try clear p2
  obtain ⟨x6_1, rfl, HA, HK1, BK205, HB⟩ := hrel
  cases gk with
  | zero => exact absurd HA.out (by simp [spec_l5Find.l0])
  | succ k1 =>
   have H := HA.out
   clear HA
   simp only [spec_l5Find.l0] at H
   by_cases c4 : x6_1 < (l0_0.length : Int)
   ·rw [if_pos c4] at H
    have c4b0 : decide (x6_1 < (l0_0.length : Int)) = true := decide_eq_true c4
    clear c4
    have H' := Aside0.mk H
    clear H
    have hcz5_0 : wr.cell? ⟨gb205, 0, none⟩ = some (.slice A0_0 l0_0.length c0_0) := (blk_cell BK205.out 0).trans rfl
    have hfz5_0 := blk_frozen BK205.out 0
    go_wp2
    go_loopg [7] k1 (fun kq v7 w' => ∃ (x7_2 : Int), v7 = .int .i64 x7_2 ∧ Aside0 (spec_l5Find.l1 kq a1 x6_1 x7_2 l0_0 = some (r1, r2)) ∧ Aside0 (kq ≤ k1) ∧ Aside0 (w'.heap[gb205]? = some (.cells #[(.slice A0_0 l0_0.length c0_0)] 28 (0, 0))) ∧ Aside0 (Below w.heap.size w w'))
    case atStart => exact ⟨(0), (by first | rfl | (simp; done) | (simp [*]; done)), H', ⟨Nat.le_refl _⟩, ⟨bkl BK205⟩, ⟨bel1 HB GE205⟩⟩
    case round =>
     clear H'
     try clear p2
     try clear c4
     try clear c4b0
     try clear hcz5_0
     try clear hfz5_0
     try clear p2
     obtain ⟨x7_2, rfl, HA, HK2, BK205, HB⟩ := hrel
     cases gk with
     | zero => exact absurd HA.out (by simp [spec_l5Find.l1])
     | succ k2 =>
      have H := HA.out
      clear HA
      simp only [spec_l5Find.l1] at H
      by_cases c6 : 0 ≤ x6_1
      ·rw [if_pos c6] at H
       have c6b0 : decide (0 ≤ x6_1) = true := decide_eq_true c6
       clear c6
       by_cases c7 : x6_1 < (l0_0.length : Int)
       ·rw [if_pos c7] at H
        have c7b0 : decide (x6_1 < (l0_0.length : Int)) = true := decide_eq_true c7
        clear c7
        by_cases c8 : x7_2 < ((rd_L1 l0_0 x6_1).length : Int)
        ·rw [if_pos c8] at H
         have c8b0 : decide (x7_2 < ((rd_L1 l0_0 x6_1).length : Int)) = true := decide_eq_true c8
         clear c8
         by_cases c9 : 0 ≤ x7_2
         ·rw [if_pos c9] at H
          have c9b0 : decide (0 ≤ x7_2) = true := decide_eq_true c9
          clear c9
          by_cases c10 : (rd (rd_L1 l0_0 x6_1) x7_2) = a1
          ·rw [if_pos c10] at H
           have c10b0 : ((rd (rd_L1 l0_0 x6_1) x7_2) == a1) = true := beq_iff_eq.mpr c10
           have c10b1 : ((rd (rd_L1 l0_0 x6_1) x7_2) != a1) = false := bne_eq_false_iff_eq.mpr c10
           clear c10
           simp only [Option.some.injEq, Prod.mk.injEq] at H
           obtain ⟨rfl, rfl⟩ := H
           have hcz11_0 : wr.cell? ⟨gb205, 0, none⟩ = some (.slice A0_0 l0_0.length c0_0) := (blk_cell BK205.out 0).trans rfl
           have hfz11_0 := blk_frozen BK205.out 0
           have p206 : 0 ≤ (x6_1 : Int) := oda
           have q206 : x6_1 < (l0_0.length : Int) := oda
           obtain ⟨ad206, A206_0, c206_0, e206, hx206_0, hl206_0, hi206_0⟩ := at_L1 HR0_0.out x6_1 p206 q206
           cases e206
           replace hx206_0 := cel HB hx206_0
           have HR206_0 := Aside0.mk hi206_0
           have HC206_0 := Aside0.mk hl206_0
           clear hi206_0 hl206_0
           replace p206 := eq_true p206
           replace q206 := eq_true q206
           have p207 : 0 ≤ (x6_1 : Int) := oda
           have q207 : x6_1 < (l0_0.length : Int) := oda
           obtain ⟨ad207, A207_0, c207_0, e207, hx207_0, hl207_0, hi207_0⟩ := at_L1 HR0_0.out x6_1 p207 q207
           obtain rfl : ad206 = ad207 := (by injection e207)
           replace hx207_0 := cel HB hx207_0
           have HR207_0 := Aside0.mk hi207_0
           have HC207_0 := Aside0.mk hl207_0
           clear hi207_0 hl207_0
           replace p207 := eq_true p207
           replace q207 := eq_true q207
           have ea_ := Option.some.inj (hx206_0.symm.trans hx207_0)
           injection ea_ with ea_ en_ ec_
           subst ea_
           subst ec_
           clear en_
           have p208 : 0 ≤ (x7_2 : Int) := oda
           have q208 : x7_2 < ((rd_L1 l0_0 x6_1).length : Int) := oda
           obtain ⟨ad208, e208, hx208_0⟩ := Kd.at_int HR207_0.out x7_2 p208 q208
           cases e208
           replace hx208_0 := cel HB hx208_0
           replace p208 := eq_true p208
           replace q208 := eq_true q208
           go_wp2
           go_ret2
           exact ⟨by first | rfl | (simp [errW_none, errW_some] <;> rfl) | (simp [*, errW_none, errW_some] <;> rfl), bel1 HB GE205⟩
          ·rw [if_neg c10] at H
           have c10b0 : ((rd (rd_L1 l0_0 x6_1) x7_2) == a1) = false := beq_eq_false_iff_ne.mpr c10
           have c10b1 : ((rd (rd_L1 l0_0 x6_1) x7_2) != a1) = true := bne_iff_ne.mpr c10
           have H' := Aside0.mk H
           clear H
           have hcz12_0 : wr.cell? ⟨gb205, 0, none⟩ = some (.slice A0_0 l0_0.length c0_0) := (blk_cell BK205.out 0).trans rfl
           have hfz12_0 := blk_frozen BK205.out 0
           have p206 : 0 ≤ (x6_1 : Int) := oda
           have q206 : x6_1 < (l0_0.length : Int) := oda
           obtain ⟨ad206, A206_0, c206_0, e206, hx206_0, hl206_0, hi206_0⟩ := at_L1 HR0_0.out x6_1 p206 q206
           cases e206
           replace hx206_0 := cel HB hx206_0
           have HR206_0 := Aside0.mk hi206_0
           have HC206_0 := Aside0.mk hl206_0
           clear hi206_0 hl206_0
           replace p206 := eq_true p206
           replace q206 := eq_true q206
           have p207 : 0 ≤ (x6_1 : Int) := oda
           have q207 : x6_1 < (l0_0.length : Int) := oda
           obtain ⟨ad207, A207_0, c207_0, e207, hx207_0, hl207_0, hi207_0⟩ := at_L1 HR0_0.out x6_1 p207 q207
           obtain rfl : ad206 = ad207 := (by injection e207)
           replace hx207_0 := cel HB hx207_0
           have HR207_0 := Aside0.mk hi207_0
           have HC207_0 := Aside0.mk hl207_0
           clear hi207_0 hl207_0
           replace p207 := eq_true p207
           replace q207 := eq_true q207
           have ea_ := Option.some.inj (hx206_0.symm.trans hx207_0)
           injection ea_ with ea_ en_ ec_
           subst ea_
           subst ec_
           clear en_
           have p208 : 0 ≤ (x7_2 : Int) := oda
           have q208 : x7_2 < ((rd_L1 l0_0 x6_1).length : Int) := oda
           obtain ⟨ad208, e208, hx208_0⟩ := Kd.at_int HR207_0.out x7_2 p208 q208
           cases e208
           replace hx208_0 := cel HB hx208_0
           replace p208 := eq_true p208
           replace q208 := eq_true q208
           go_wp2
           go_roundg k2
           case measure => have := HK1.out; have := HK2.out; omega
           case rel => exact ⟨(wrap64 (x7_2 + 1)), (by first | rfl | (simp; done) | (simp [*]; done)), H', ⟨by have := HK1.out; have := HK2.out; omega⟩, ⟨bkl BK205⟩, ⟨bel1 HB GE205⟩⟩
         ·rw [if_neg c9] at H
          exact absurd H (by simp)
        ·rw [if_neg c8] at H
         have c8b0 : decide (x7_2 < ((rd_L1 l0_0 x6_1).length : Int)) = false := decide_eq_false c8
         clear c8
         have H' := Aside0.mk H
         clear H
         have hcz13_0 : wr.cell? ⟨gb205, 0, none⟩ = some (.slice A0_0 l0_0.length c0_0) := (blk_cell BK205.out 0).trans rfl
         have hfz13_0 := blk_frozen BK205.out 0
         have p206 : 0 ≤ (x6_1 : Int) := oda
         have q206 : x6_1 < (l0_0.length : Int) := oda
         obtain ⟨ad206, A206_0, c206_0, e206, hx206_0, hl206_0, hi206_0⟩ := at_L1 HR0_0.out x6_1 p206 q206
         cases e206
         replace hx206_0 := cel HB hx206_0
         have HR206_0 := Aside0.mk hi206_0
         have HC206_0 := Aside0.mk hl206_0
         clear hi206_0 hl206_0
         replace p206 := eq_true p206
         replace q206 := eq_true q206
         go_wp2
         go_roundg k2
         case measure => have := HK1.out; have := HK2.out; omega
         case rel => exact ⟨(wrap64 (x6_1 + 1)), (by first | rfl | (simp; done) | (simp [*]; done)), H', ⟨by have := HK1.out; have := HK2.out; omega⟩, ⟨bkl BK205⟩, ⟨bel1 HB GE205⟩⟩
       ·rw [if_neg c7] at H
        exact absurd H (by simp)
      ·rw [if_neg c6] at H
       exact absurd H (by simp)
   ·rw [if_neg c4] at H
    have c4b0 : decide (x6_1 < (l0_0.length : Int)) = false := decide_eq_false c4
    clear c4
    simp only [Option.some.injEq, Prod.mk.injEq] at H
    obtain ⟨rfl, rfl⟩ := H
    have hcz14_0 : wr.cell? ⟨gb205, 0, none⟩ = some (.slice A0_0 l0_0.length c0_0) := (blk_cell BK205.out 0).trans rfl
    have hfz14_0 := blk_frozen BK205.out 0
    go_wp2
    go_ret2
    exact ⟨by first | rfl | (simp [errW_none, errW_some] <;> rfl) | (simp [*, errW_none, errW_some] <;> rfl), bel1 HB GE205⟩

end Go.Proofs.Ytchjkaondonldaa.P
