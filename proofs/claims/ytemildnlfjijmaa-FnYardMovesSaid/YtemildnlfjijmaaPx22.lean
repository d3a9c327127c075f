-- Written by a program of this session over the translation (a variant of the printer, see wip/gen); Lean checks it.
import Derived.Test.YtemildnlfjijmaaVC
import Derived.Test.YtemildnlfjijmaaPx0
import Derived.Test.YtemildnlfjijmaaPx14
import Derived.Test.YtemildnlfjijmaaPx16
namespace Go.Proofs.Ytemildnlfjijmaa.P
open Go.RowKit Go.Proofs.YtemildnlfjijmaaW.PrintWords Go.Proofs.YtemildnlfjijmaaW.PrintLast Go.Proofs.YtemildnlfjijmaaW.PrintMore
attribute [local go_sem] Go.Proofs.Ytemildnlfjijmaa.V.isSome_setCell max2_int min2_int max_two min_two max_three min_three max_four min_four
set_option linter.unusedVariables false
set_option linter.unusedSimpArgs false
/-! ### impl_yardFindings: function 28 -/
mutual
def impl_yardFindings.l0 : Nat → List (S71) → Int → List (S73) → List (List Int) → Int → Int → Option ((List (S73)))
 | 0, _, _, _, _, _, _ => none
 | k + 1, x1, x2, x7, x15, x16, x17 => if x17 < x16 then (if 0 ≤ x17 then (if x17 < (x15.length : Int) then (impl_yardFindings.l1 k x1 x2 x7 x17 (rd_L4 x15 x17) x15 x16 x17 ((rd_L4 x15 x17).length : Int) 0) else (none)) else (none)) else (some x7)
def impl_yardFindings.l1 : Nat → List (S71) → Int → List (S73) → Int → List Int → List (List Int) → Int → Int → Int → Int → Option ((List (S73)))
 | 0, _, _, _, _, _, _, _, _, _, _ => none
 | k + 1, x1, x2, x7, x8, x9, x15, x16, x17, x23, x24 => if x24 < x23 then ((impl_brokenRules.f k x9 x1 x2 x8 x24).bind fun t570 => (impl_yardFindings.l2 k x1 x2 x7 x8 x9 x24 x15 x16 x17 x23 x24 t570 (t570.length : Int) 0)) else (impl_yardFindings.l0 k x1 x2 x7 x15 x16 (wrap64 (x17 + 1)))
def impl_yardFindings.l2 : Nat → List (S71) → Int → List (S73) → Int → List Int → Int → List (List Int) → Int → Int → Int → Int → List Int → Int → Int → Option ((List (S73)))
 | 0, _, _, _, _, _, _, _, _, _, _, _, _, _, _ => none
 | k + 1, x1, x2, x7, x8, x9, x10, x15, x16, x17, x23, x24, x32, x33, x34 => if x34 < x33 then (if 0 ≤ x34 then (if x34 < (x32.length : Int) then (if x7.length < 5864062014805 then (impl_yardFindings.l2 k x1 x2 (x7 ++ [(⟨rd x32 x34, x8, x10⟩ : S73)]) x8 x9 x10 x15 x16 x17 x23 x24 x32 x33 (wrap64 (x34 + 1))) else (none)) else (none)) else (none)) else (impl_yardFindings.l1 k x1 x2 x7 x8 x9 x15 x16 x17 x23 (wrap64 (x24 + 1)))
end
def impl_yardFindings.f (k : Nat) (l0_0 : List (List Int)) (l1 : List (S71)) (a2 : Int) : Option ((List (S73))) := impl_yardFindings.l0 k l1 a2 (([] : List (S73))) l0_0 (l0_0.length : Int) 0
set_option maxHeartbeats 8000000 in
set_option maxRecDepth 100000 in
theorem impl_yardFindings.calls (k : Nat) (A0_0 : Option Addr) (c0_0 : Nat) (l0_0 : List (List Int)) (A1 : Option Addr) (c1 : Nat) (l1 : List (S71)) (a2 : Int) (r : List (S73)) (w : World) (hr0_0 : Kd.C (Kd.slice 3 (Kd.int .i64)) w A0_0 l0_0.length l0_0) (hc0_0 : l0_0.length ≤ c0_0) (hr1 : Kd.C k71 w A1 l1.length l1) (hc1 : l1.length ≤ c1) (h : impl_yardFindings.f k l0_0 l1 a2 = some r) :
  Calls Try.prog 28 #[.agg #[.slice A0_0 l0_0.length c0_0], .slice A1 l1.length c1, .int .i64 a2] w fun e w' => ∃ v0_ : Value, e = .returned (v0_) ∧ Kd.R k73 73 w' w.heap.size (fun _ => True) v0_ r ∧ Below w.heap.size w w' := by
 have hu26 := Try.underlying26
 have hu73 := Try.underlying73
 have HR0_0 := Aside0.mk hr0_0
 have HC0_0 := Aside0.mk hc0_0
 clear hr0_0 hc0_0
 have HR1 := Aside0.mk hr1
 have HC1 := Aside0.mk hc1
 clear hr1 hc1
 have HB := Aside0.mk (Below.refl w.heap.size w)
 have H : (impl_yardFindings.l0 k l1 a2 (([] : List (S73))) l0_0 (l0_0.length : Int) 0) = some r := h
 clear h
 obtain ⟨y566, hy566⟩ : ∃ y_ : List (S73), y_ = (([] : List (S73))) := ⟨_, rfl⟩
 replace H : (impl_yardFindings.l0 k l1 a2 y566 l0_0 (l0_0.length : Int) 0) = some r := by (rw [hy566]; with_reducible exact H) 
 have Ny566 := Aside0.mk hy566
 clear hy566
 have H' := Aside0.mk H
 clear H
 go_enter Try.func28, Try.ntmps28
 go_wp2_with (first | ((with_reducible refine gate_dst (N := 3) rfl ?_); refine box_event ?hg (N := 3) ?hd (cs := #[.slice A0_0 l0_0.length c0_0]) (t := 26) ?hr ?_; (case hd | hg => rfl); (case hr => go_simp); intro gb565 hg w4 hbox hb; have BK565 := Aside0.mk (hbox); have GW565 := gsb (w := w) hg (bel HB); have GE565 := gsb (w := w) hg (bel HB); replace HB := Aside0.mk (below_step (bel HB) hb); clear hb hbox hg) | ((with_reducible refine gate_dst (N := 13) rfl ?_); refine Kd.R_lit k73 _ 73 ?hg (N := 13) ?hd (xs := ([] : List (S73))) (inner := []) (ok := fun _ => True) (okp := fun _ => True) ?hr ?hp (fun _ hk => hk) trivial (Below.refl _ _) (Nat.le_refl _) (by simp) ?_; (case hd | hg => rfl); (case hr => go_simp); (case hp => exact (Reps.none _ _)); intro v567 w5 ho6 hb hg_ hnew_; clear hg_ hnew_; (rw [← Ny566.out] at ho6 ); have HO568 := Aside0.mk (Kd.R_lower ho6 (below_size (bel1 HB GE565))); replace BK565 := bkb BK565 hb; replace HB := Aside0.mk (below_step (bel1 HB GE565) hb); clear hb ho6; have hcz7_0 := bc BK565 0; have hfz7_0 := blk_frozen BK565.out 0))
 go_loopg [7, 17] k (fun kq v7 v17 w' => ∃ (x7_1 : List (S73)) (x17_1 : Int), v17 = .int .i64 x17_1 ∧ Aside0 (impl_yardFindings.l0 kq l1 a2 x7_1 l0_0 (l0_0.length : Int) x17_1 = some r) ∧ Aside0 (kq ≤ k) ∧ Aside0 (Kd.R k73 73 w' w.heap.size (fun _ => True) v7 x7_1) ∧ Aside0 (w'.heap[gb565]? = some (.cells #[(.slice A0_0 l0_0.length c0_0)] 26 (0, 0))) ∧ Aside0 (Below w.heap.size w w'))
 case atStart => exact ⟨(y566), (0), (by rfl ), H', ⟨Nat.le_refl _⟩, ⟨rdl HO568⟩, ⟨bkl BK565⟩, ⟨bel1 HB GE565⟩⟩
 clear H'
 try clear hcz7_0
 try clear hfz7_0
 obtain ⟨x7_1, x17_1, rfl, HA, HK1, HO_7, BK565, HB⟩ := hrel
 cases gk with
 | zero => exact absurd HA.out (by simp [impl_yardFindings.l0])
 | succ k1 =>
  have H := HA.out
  clear HA
  simp only [impl_yardFindings.l0] at H
  by_cases c8 : x17_1 < (l0_0.length : Int)
  rotate_left
  ·rw [if_neg c8] at H
   have c8b0 : decide (x17_1 < (l0_0.length : Int)) = false := decide_eq_false c8
   clear c8
   obtain rfl := Option.some.inj H
   go_wp2
   go_ret
   exact ⟨_, by rfl , rdl HO_7, bel1 HB GE565⟩
  rw [if_pos c8] at H
  have c8b0 : decide (x17_1 < (l0_0.length : Int)) = true := decide_eq_true c8
  clear c8
  by_cases c9 : 0 ≤ x17_1
  rotate_left
  ·rw [if_neg c9] at H
   exact absurd H (by simp)
  rw [if_pos c9] at H
  have c9b0 : decide (0 ≤ x17_1) = true := decide_eq_true c9
  clear c9
  by_cases c10 : x17_1 < (l0_0.length : Int)
  rotate_left
  ·rw [if_neg c10] at H
   exact absurd H (by simp)
  rw [if_pos c10] at H
  have c10b0 : decide (x17_1 < (l0_0.length : Int)) = true := decide_eq_true c10
  clear c10
  have H' := Aside0.mk H
  clear H
  have p569 : 0 ≤ (x17_1 : Int) := oda
  have q569 : x17_1 < (l0_0.length : Int) := oda
  obtain ⟨ad569, A569_0, c569_0, e569, hx569_0, hl569_0, hi569_0⟩ := at_L4 HR0_0.out x17_1 p569 q569
  cases e569
  replace hx569_0 := cel HB hx569_0
  have HR569_0 := Aside0.mk hi569_0
  have HC569_0 := Aside0.mk hl569_0
  clear hi569_0 hl569_0
  replace p569 := eq_true p569
  replace q569 := eq_true q569
  go_wp2
  go_loopg [7, 24] k1 (fun kq v7 v24 w' => ∃ (x7_2 : List (S73)) (x24_2 : Int), v24 = .int .i64 x24_2 ∧ Aside0 (impl_yardFindings.l1 kq l1 a2 x7_2 x17_1 (rd_L4 l0_0 x17_1) l0_0 (l0_0.length : Int) x17_1 ((rd_L4 l0_0 x17_1).length : Int) x24_2 = some r) ∧ Aside0 (kq ≤ k1) ∧ Aside0 (Kd.R k73 73 w' w.heap.size (fun _ => True) v7 x7_2) ∧ Aside0 (w'.heap[gb565]? = some (.cells #[(.slice (some ad569) l0_0.length c0_0)] 26 (0, 0))) ∧ Aside0 (Below w.heap.size w w'))
  case atStart => exact ⟨(x7_1), (0), (by rfl ), H', ⟨Nat.le_refl _⟩, ⟨rdl HO_7⟩, ⟨bkl BK565⟩, ⟨bel1 HB GE565⟩⟩
  clear H'
  try clear c8b0
  try clear c9b0
  try clear c10b0
  try clear hx569_0
  try clear p569
  try clear q569
  obtain ⟨x7_2, x24_2, rfl, HA, HK2, HO_7, BK565, HB⟩ := hrel
  cases gk with
  | zero => exact absurd HA.out (by simp [impl_yardFindings.l1])
  | succ k2 =>
   have H := HA.out
   clear HA
   simp only [impl_yardFindings.l1] at H
   by_cases c11 : x24_2 < ((rd_L4 l0_0 x17_1).length : Int)
   rotate_left
   ·rw [if_neg c11] at H
    have c11b0 : decide (x24_2 < ((rd_L4 l0_0 x17_1).length : Int)) = false := decide_eq_false c11
    clear c11
    have H' := Aside0.mk H
    clear H
    go_wp2
    go_roundg k2
    case measure => have := HK1.out; have := HK2.out; omega
    case rel => exact ⟨(x7_2), (wrap64 (x17_1 + 1)), (by rfl ), H', ⟨by have := HK1.out; have := HK2.out; omega⟩, ⟨rdl HO_7⟩, ⟨bkl BK565⟩, ⟨bel1 HB GE565⟩⟩
   rw [if_pos c11] at H
   have c11b0 : decide (x24_2 < ((rd_L4 l0_0 x17_1).length : Int)) = true := decide_eq_true c11
   clear c11
   obtain ⟨t570, A12, H⟩ := bnd H
   try dsimp only at H
   have H' := Aside0.mk H
   clear H
   go_wp2_with (first | ((with_reducible refine gate_callee (f := 23) rfl ?_); refine goesL_ (some 32) rfl rfl Try.func23 (by kernel_rfl) rfl #[.slice A569_0 (rd_L4 l0_0 x17_1).length c569_0, .slice A1 l1.length c1, .int .i64 a2, .int .i64 x17_1, .int .i64 x24_2] rfl gmp ?_; (with_reducible refine (impl_brokenRules.calls k2 _ _ (rd_L4 l0_0 x17_1) _ _ l1 a2 x17_1 x24_2 t570 _ ?side1 ?side2 ?side3 ?side4 A12.out).mono ?_); (case side1 => exact cdl (Kd.C_below HR569_0.out HB.out)); (case side2 => exact HC569_0.out); (case side3 => exact cdl (Kd.C_below HR1.out HB.out)); (case side4 => exact HC1.out); rintro e w13 ⟨v571, rfl, ho0, hb⟩; refine ⟨_, rfl, ?_⟩; replace HO_7 := Aside0.mk (Kd.R_below (rdl HO_7) hb); have HO572 := Aside0.mk (Kd.R_lower ho0 (below_size (bel1 HB GE565))); replace BK565 := bkb BK565 hb; replace HB := Aside0.mk (below_step (bel1 HB GE565) hb); (try clear hb); (try clear ho0); obtain ⟨Ao14, co14, eo14⟩ := Kd.R_slice HO572.out; subst eo14))
   go_loopg [7, 34] k2 (fun kq v7 v34 w' => ∃ (x7_3 : List (S73)) (x34_3 : Int), v34 = .int .i64 x34_3 ∧ Aside0 (impl_yardFindings.l2 kq l1 a2 x7_3 x17_1 (rd_L4 l0_0 x17_1) x24_2 l0_0 (l0_0.length : Int) x17_1 ((rd_L4 l0_0 x17_1).length : Int) x24_2 t570 (t570.length : Int) x34_3 = some r) ∧ Aside0 (kq ≤ k2) ∧ Aside0 (Kd.R k73 73 w' w.heap.size (fun _ => True) v7 x7_3) ∧ Aside0 (Kd.R (Kd.int .i64) 3 w' w.heap.size (fun _ => True) (.slice Ao14 t570.length co14) t570) ∧ Aside0 (w'.heap[gb565]? = some (.cells #[(.slice (some ad569) l0_0.length c0_0)] 26 (0, 0))) ∧ Aside0 (Below w.heap.size w w'))
   case atStart => exact ⟨(x7_2), (0), (by rfl ), H', ⟨Nat.le_refl _⟩, ⟨rdl HO_7⟩, ⟨rdl HO572⟩, ⟨bkl BK565⟩, ⟨bel1 HB GE565⟩⟩
   clear H'
   try clear c11b0
   obtain ⟨x7_3, x34_3, rfl, HA, HK3, HO_7, HO_32, BK565, HB⟩ := hrel
   cases gk with
   | zero => exact absurd HA.out (by simp [impl_yardFindings.l2])
   | succ k3 =>
    have H := HA.out
    clear HA
    simp only [impl_yardFindings.l2] at H
    by_cases c15 : x34_3 < (t570.length : Int)
    rotate_left
    ·rw [if_neg c15] at H
     have c15b0 : decide (x34_3 < (t570.length : Int)) = false := decide_eq_false c15
     clear c15
     have H' := Aside0.mk H
     clear H
     go_wp2
     go_roundg k3
     case measure => have := HK1.out; have := HK2.out; have := HK3.out; omega
     case rel => exact ⟨(x7_3), (wrap64 (x24_2 + 1)), (by rfl ), H', ⟨by have := HK1.out; have := HK2.out; have := HK3.out; omega⟩, ⟨rdl HO_7⟩, ⟨bkl BK565⟩, ⟨bel1 HB GE565⟩⟩
    rw [if_pos c15] at H
    have c15b0 : decide (x34_3 < (t570.length : Int)) = true := decide_eq_true c15
    clear c15
    by_cases c16 : 0 ≤ x34_3
    rotate_left
    ·rw [if_neg c16] at H
     exact absurd H (by simp)
    rw [if_pos c16] at H
    have c16b0 : decide (0 ≤ x34_3) = true := decide_eq_true c16
    clear c16
    by_cases c17 : x34_3 < (t570.length : Int)
    rotate_left
    ·rw [if_neg c17] at H
     exact absurd H (by simp)
    rw [if_pos c17] at H
    have c17b0 : decide (x34_3 < (t570.length : Int)) = true := decide_eq_true c17
    clear c17
    by_cases c18 : x7_3.length < 5864062014805
    rotate_left
    ·rw [if_neg c18] at H
     exact absurd H (by simp)
    rw [if_pos c18] at H
    have LMc18 := Aside0.mk c18
    clear c18
    obtain ⟨y574, hy574⟩ : ∃ y_ : List (S73), y_ = (x7_3 ++ [(⟨rd t570 x34_3, x17_1, x24_2⟩ : S73)]) := ⟨_, rfl⟩
    replace H : (impl_yardFindings.l2 k3 l1 a2 y574 x17_1 (rd_L4 l0_0 x17_1) x24_2 l0_0 (l0_0.length : Int) x17_1 ((rd_L4 l0_0 x17_1).length : Int) x24_2 t570 (t570.length : Int) (wrap64 (x34_3 + 1))) = some r := by (rw [hy574]; with_reducible exact H) 
    have Ny574 := Aside0.mk hy574
    clear hy574
    have H' := Aside0.mk H
    clear H
    have p573 : 0 ≤ (x34_3 : Int) := oda
    have q573 : x34_3 < (t570.length : Int) := oda
    obtain ⟨ad573, e573, hx573_0⟩ := Kd.at_int (Kd.R_reads' HO_32.out).2.2 x34_3 p573 q573
    cases e573
    replace p573 := eq_true p573
    replace q573 := eq_true q573
    go_wp2_with (first | ((with_reducible refine gate_builtin (b := .append) (xs := #[.tmp 38, .tmp 43]) rfl ?_); at_builtin; refine Kd.R_append k73 (w0 := w) w.heap.size rfl (.tmp 38) (.tmp 43) 34 73 (.agg #[(.int .i64 0), (.int .i64 0), (.int .i64 0)]) 24 rfl Try.underlying34 info73 rfl (by decide) (by omega) u7 x7_3 (⟨rd t570 x34_3, x17_1, x24_2⟩ : S73) [.int .i64 (rd t570 x34_3), .int .i64 x17_1, .int .i64 x24_2] (fun _ => True) (fun _ => False) rfl rfl ?aP (fun _ hk => hk.elim) ?aF ?aO ?aB ?aS ?aL ?_; (case aP => exact k73_mkM _ _ _ (⟨rd t570 x34_3, x17_1, x24_2⟩ : S73)); (case aB => exact (bel1 HB GE565)); (case aF => exact (fun _ _ => trivial)); (case aO => exact (rdl HO_7)); (case aS => exact (below_size (bel1 HB GE565))); (case aL => have := LMc18.out; omega); intro v575 w19 ho hb hg hat; rw [← Ny574.out] at ho; replace HO_32 := Aside0.mk (Kd.R_over' (rdl HO_32) (Kd.R_typed (rdl HO_7)) (by decide) hg); replace BK565 := Aside0.mk (blk_grown (g := gb565) (o := .cells #[.slice (some ad569) l0_0.length c0_0] 26 (0, 0)) (bkl BK565) hg (Kd.R_ne HO_7.out BK565.out (by decide))); replace HB := Aside0.mk (hb); have HO576 := Aside0.mk (ho); clear HO_7; clear ho hb hg hat))
    go_roundg k3
    case measure => have := HK1.out; have := HK2.out; have := HK3.out; omega
    case rel => exact ⟨(y574), (wrap64 (x34_3 + 1)), (by rfl ), H', ⟨by have := HK1.out; have := HK2.out; have := HK3.out; omega⟩, ⟨rdl HO576⟩, ⟨rdl HO_32⟩, ⟨bkl BK565⟩, ⟨bel1 HB GE565⟩⟩
/-! ### impl_YardFindings: function 9 -/
def impl_YardFindings.f (k : Nat) (l0_0 : List (List Int)) (l1 : List (S71)) (a2 : Int) : Option ((List (S73)) × Bool) := (impl_areYard.f k l0_0 l1 a2).bind fun t578 => (if t578 = true then ((impl_yardFindings.f k l0_0 l1 a2).bind fun t579 => (some (t579, true))) else (some (([] : List (S73)), false)))
set_option maxHeartbeats 8000000 in
set_option maxRecDepth 100000 in
theorem impl_YardFindings.calls (k : Nat) (A0_0 : Option Addr) (c0_0 : Nat) (l0_0 : List (List Int)) (A1 : Option Addr) (c1 : Nat) (l1 : List (S71)) (a2 : Int) (r1 : List (S73)) (r2 : Bool) (w : World) (hr0_0 : Kd.C (Kd.slice 3 (Kd.int .i64)) w A0_0 l0_0.length l0_0) (hc0_0 : l0_0.length ≤ c0_0) (hr1 : Kd.C k71 w A1 l1.length l1) (hc1 : l1.length ≤ c1) (h : impl_YardFindings.f k l0_0 l1 a2 = some (r1, r2)) :
  Calls Try.prog 9 #[.agg #[.slice A0_0 l0_0.length c0_0], .slice A1 l1.length c1, .int .i64 a2] w fun e w' => ∃ v0_ : Value, e = .returned (.tuple #[v0_, .bool r2]) ∧ Kd.R k73 73 w' w.heap.size (fun _ => True) v0_ r1 ∧ Below w.heap.size w w' := by
 have hu26 := Try.underlying26
 have HR0_0 := Aside0.mk hr0_0
 have HC0_0 := Aside0.mk hc0_0
 clear hr0_0 hc0_0
 have HR1 := Aside0.mk hr1
 have HC1 := Aside0.mk hc1
 clear hr1 hc1
 have HB := Aside0.mk (Below.refl w.heap.size w)
 have H : ((impl_areYard.f k l0_0 l1 a2).bind fun t578 => (if t578 = true then ((impl_yardFindings.f k l0_0 l1 a2).bind fun t579 => (some (t579, true))) else (some (([] : List (S73)), false)))) = some (r1, r2) := h
 clear h
 obtain ⟨t578, A4, H⟩ := bnd H
 try dsimp only at H
 by_cases c5 : t578 = true
 rotate_left
 ·replace c5 := Bool.eq_false_iff.mpr c5
  subst c5
  replace H : (some (([] : List (S73)), false)) = some (r1, r2) := by rw [if_neg (show ¬ (false = true) by decide)] at H; exact H
  simp only [Option.some.injEq, Prod.mk.injEq] at H
  obtain ⟨rfl, rfl⟩ := H
  go_enter Try.func9, Try.ntmps9
  go_wp2_with (first | ((with_reducible refine gate_dst (N := 3) rfl ?_); refine box_event ?hg (N := 3) ?hd (cs := #[.slice A0_0 l0_0.length c0_0]) (t := 26) ?hr ?_; (case hd | hg => rfl); (case hr => go_simp); intro gb577 hg w12 hbox hb; have BK577 := Aside0.mk (hbox); have GW577 := gsb (w := w) hg (bel HB); have GE577 := gsb (w := w) hg (bel HB); replace HB := Aside0.mk (below_step (bel HB) hb); clear hb hbox hg; obtain ⟨_, _⟩ := bf1 BK577) | ((with_reducible refine gate_callee (f := 20) rfl ?_); refine goesL_ (some 11) rfl rfl Try.func20 (by kernel_rfl) rfl #[.agg #[.slice A0_0 l0_0.length c0_0], .slice A1 l1.length c1, .int .i64 a2] rfl gmp ?_; (with_reducible refine (impl_areYard.calls k _ _ l0_0 _ _ l1 a2 false _ ?side1 ?side2 ?side3 ?side4 A4.out).mono ?_); (case side1 => exact cdl (Kd.C_below HR0_0.out HB.out)); (case side2 => exact HC0_0.out); (case side3 => exact cdl (Kd.C_below HR1.out HB.out)); (case side4 => exact HC1.out); rintro e w14 ⟨rfl, hb⟩; refine ⟨_, rfl, ?_⟩; replace BK577 := bkb BK577 hb; replace HB := Aside0.mk (below_step (bel1 HB GE577) hb); (try clear hb)))
  go_ret2
  exact ⟨_, by rfl , by exact Kd.R_nil _ _ _ _ _ , bel1 HB GE577⟩
 subst c5
 replace H : ((impl_yardFindings.f k l0_0 l1 a2).bind fun t579 => (some (t579, true))) = some (r1, r2) := by rw [if_pos rfl] at H; exact H
 obtain ⟨t579, A6, H⟩ := bnd H
 try dsimp only at H
 simp only [Option.some.injEq, Prod.mk.injEq] at H
 obtain ⟨rfl, rfl⟩ := H
 go_enter Try.func9, Try.ntmps9
 go_wp2_with (first | ((with_reducible refine gate_dst (N := 3) rfl ?_); refine box_event ?hg (N := 3) ?hd (cs := #[.slice A0_0 l0_0.length c0_0]) (t := 26) ?hr ?_; (case hd | hg => rfl); (case hr => go_simp); intro gb577 hg w7 hbox hb; have BK577 := Aside0.mk (hbox); have GW577 := gsb (w := w) hg (bel HB); have GE577 := gsb (w := w) hg (bel HB); replace HB := Aside0.mk (below_step (bel HB) hb); clear hb hbox hg; obtain ⟨_, _⟩ := bf1 BK577) | ((with_reducible refine gate_callee (f := 20) rfl ?_); refine goesL_ (some 11) rfl rfl Try.func20 (by kernel_rfl) rfl #[.agg #[.slice A0_0 l0_0.length c0_0], .slice A1 l1.length c1, .int .i64 a2] rfl gmp ?_; (with_reducible refine (impl_areYard.calls k _ _ l0_0 _ _ l1 a2 true _ ?side1 ?side2 ?side3 ?side4 A4.out).mono ?_); (case side1 => exact cdl (Kd.C_below HR0_0.out HB.out)); (case side2 => exact HC0_0.out); (case side3 => exact cdl (Kd.C_below HR1.out HB.out)); (case side4 => exact HC1.out); rintro e w9 ⟨rfl, hb⟩; refine ⟨_, rfl, ?_⟩; replace BK577 := bkb BK577 hb; replace HB := Aside0.mk (below_step (bel1 HB GE577) hb); (try clear hb); obtain ⟨_, _⟩ := bf1 BK577) | ((with_reducible refine gate_callee (f := 28) rfl ?_); refine goesL_ (some 16) rfl rfl Try.func28 (by kernel_rfl) rfl #[.agg #[.slice A0_0 l0_0.length c0_0], .slice A1 l1.length c1, .int .i64 a2] rfl gmp ?_; (with_reducible refine (impl_yardFindings.calls k _ _ l0_0 _ _ l1 a2 t579 _ ?side1 ?side2 ?side3 ?side4 A6.out).mono ?_); (case side1 => exact cdl (Kd.C_below HR0_0.out HB.out)); (case side2 => exact HC0_0.out); (case side3 => exact cdl (Kd.C_below HR1.out HB.out)); (case side4 => exact HC1.out); rintro e w11 ⟨v580, rfl, ho0, hb⟩; refine ⟨_, rfl, ?_⟩; have HO581 := Aside0.mk (Kd.R_lower ho0 (below_size (bel1 HB GE577))); replace BK577 := bkb BK577 hb; replace HB := Aside0.mk (below_step (bel1 HB GE577) hb); (try clear hb); (try clear ho0)))
 go_ret2
 exact ⟨_, by rfl , rdl HO581, bel1 HB GE577⟩
end Go.Proofs.Ytemildnlfjijmaa.P
