-- Written by a program of this session over the translation (a variant of the printer, see wip/gen); Lean checks it.
import Derived.Test.YtnknojpijmfefaaGreatDoorPx0
import Derived.Test.YtnknojpijmfefaaGreatDoorPx1
namespace Go.Proofs.YtnknojpijmfefaaGreatDoor.P
open Go.RowKit Go.Proofs.YtnknojpijmfefaaGreatDoorW.PrintWords Go.Proofs.YtnknojpijmfefaaGreatDoorW.PrintLast Go.Proofs.YtnknojpijmfefaaGreatDoorW.PrintMore
attribute [local go_sem] Go.Proofs.YtnknojpijmfefaaGreatDoor.V.isSome_setCell max2_int min2_int max_two min_two max_three min_three max_four min_four
set_option linter.unusedVariables false
set_option linter.unusedSimpArgs false
/-! ### spec_l9Text: function 33 -/
mutual
def spec_l9Text.l0 : Nat → ByteArray → Int → Int → List (List Int) → Option (ByteArray)
 | 0, _, _, _, _ => none
 | k + 1, x3, x4, x352000, x352001 => if x4 ≥ 0 then (spec_l9Text.l1 k x3 x4 0 x352000 x352001) else (some x3)
def spec_l9Text.l1 : Nat → ByteArray → Int → Int → Int → List (List Int) → Option (ByteArray)
 | 0, _, _, _, _, _ => none
 | k + 1, x3, x4, x5, x352000, x352001 => if x5 < (x352001.length : Int) then (if x5 > 0 then (if x3.size + 1 ≤ 9223372036854775807 then (if 0 ≤ x5 then (if x4 ≥ ((rd_L2 x352001 x5).length : Int) then (if (x3 ++ (⟨#[32]⟩ : ByteArray)).size + 2 ≤ 9223372036854775807 then (spec_l9Text.l1 k ((x3 ++ (⟨#[32]⟩ : ByteArray)) ++ (⟨#[46, 46]⟩ : ByteArray)) x4 (wrap64 (x5 + 1)) x352000 x352001) else (none)) else (if 0 ≤ x4 then (if x4 < ((rd_L2 x352001 x5).length : Int) then (if 0 ≤ (wrap64 (Int.tdiv (rd (rd_L2 x352001 x5) x4) 10)) then (if (wrap64 (Int.tdiv (rd (rd_L2 x352001 x5) x4) 10)) ≤ (wrap64 ((wrap64 (Int.tdiv (rd (rd_L2 x352001 x5) x4) 10)) + 1)) then (if (wrap64 ((wrap64 (Int.tdiv (rd (rd_L2 x352001 x5) x4) 10)) + 1)) ≤ 10 then (if (x3 ++ (⟨#[32]⟩ : ByteArray)).size + ((⟨#[48, 49, 50, 51, 52, 53, 54, 55, 56, 57]⟩ : ByteArray).extract ((wrap64 (Int.tdiv (rd (rd_L2 x352001 x5) x4) 10)) : Int).toNat ((wrap64 ((wrap64 (Int.tdiv (rd (rd_L2 x352001 x5) x4) 10)) + 1)) : Int).toNat).size ≤ 9223372036854775807 then (if 0 ≤ (Int.tmod (rd (rd_L2 x352001 x5) x4) 10) then (if (Int.tmod (rd (rd_L2 x352001 x5) x4) 10) ≤ (wrap64 ((Int.tmod (rd (rd_L2 x352001 x5) x4) 10) + 1)) then (if (wrap64 ((Int.tmod (rd (rd_L2 x352001 x5) x4) 10) + 1)) ≤ 10 then (if ((x3 ++ (⟨#[32]⟩ : ByteArray)) ++ ((⟨#[48, 49, 50, 51, 52, 53, 54, 55, 56, 57]⟩ : ByteArray).extract ((wrap64 (Int.tdiv (rd (rd_L2 x352001 x5) x4) 10)) : Int).toNat ((wrap64 ((wrap64 (Int.tdiv (rd (rd_L2 x352001 x5) x4) 10)) + 1)) : Int).toNat)).size + ((⟨#[48, 49, 50, 51, 52, 53, 54, 55, 56, 57]⟩ : ByteArray).extract ((Int.tmod (rd (rd_L2 x352001 x5) x4) 10) : Int).toNat ((wrap64 ((Int.tmod (rd (rd_L2 x352001 x5) x4) 10) + 1)) : Int).toNat).size ≤ 9223372036854775807 then (spec_l9Text.l1 k (((x3 ++ (⟨#[32]⟩ : ByteArray)) ++ ((⟨#[48, 49, 50, 51, 52, 53, 54, 55, 56, 57]⟩ : ByteArray).extract ((wrap64 (Int.tdiv (rd (rd_L2 x352001 x5) x4) 10)) : Int).toNat ((wrap64 ((wrap64 (Int.tdiv (rd (rd_L2 x352001 x5) x4) 10)) + 1)) : Int).toNat)) ++ ((⟨#[48, 49, 50, 51, 52, 53, 54, 55, 56, 57]⟩ : ByteArray).extract ((Int.tmod (rd (rd_L2 x352001 x5) x4) 10) : Int).toNat ((wrap64 ((Int.tmod (rd (rd_L2 x352001 x5) x4) 10) + 1)) : Int).toNat)) x4 (wrap64 (x5 + 1)) x352000 x352001) else (none)) else (none)) else (none)) else (none)) else (none)) else (none)) else (none)) else (none)) else (none)) else (none))) else (none)) else (none)) else (if 0 ≤ x5 then (if x4 ≥ ((rd_L2 x352001 x5).length : Int) then (if x3.size + 2 ≤ 9223372036854775807 then (spec_l9Text.l1 k (x3 ++ (⟨#[46, 46]⟩ : ByteArray)) x4 (wrap64 (x5 + 1)) x352000 x352001) else (none)) else (if 0 ≤ x4 then (if x4 < ((rd_L2 x352001 x5).length : Int) then (if 0 ≤ (wrap64 (Int.tdiv (rd (rd_L2 x352001 x5) x4) 10)) then (if (wrap64 (Int.tdiv (rd (rd_L2 x352001 x5) x4) 10)) ≤ (wrap64 ((wrap64 (Int.tdiv (rd (rd_L2 x352001 x5) x4) 10)) + 1)) then (if (wrap64 ((wrap64 (Int.tdiv (rd (rd_L2 x352001 x5) x4) 10)) + 1)) ≤ 10 then (if x3.size + ((⟨#[48, 49, 50, 51, 52, 53, 54, 55, 56, 57]⟩ : ByteArray).extract ((wrap64 (Int.tdiv (rd (rd_L2 x352001 x5) x4) 10)) : Int).toNat ((wrap64 ((wrap64 (Int.tdiv (rd (rd_L2 x352001 x5) x4) 10)) + 1)) : Int).toNat).size ≤ 9223372036854775807 then (if 0 ≤ (Int.tmod (rd (rd_L2 x352001 x5) x4) 10) then (if (Int.tmod (rd (rd_L2 x352001 x5) x4) 10) ≤ (wrap64 ((Int.tmod (rd (rd_L2 x352001 x5) x4) 10) + 1)) then (if (wrap64 ((Int.tmod (rd (rd_L2 x352001 x5) x4) 10) + 1)) ≤ 10 then (if (x3 ++ ((⟨#[48, 49, 50, 51, 52, 53, 54, 55, 56, 57]⟩ : ByteArray).extract ((wrap64 (Int.tdiv (rd (rd_L2 x352001 x5) x4) 10)) : Int).toNat ((wrap64 ((wrap64 (Int.tdiv (rd (rd_L2 x352001 x5) x4) 10)) + 1)) : Int).toNat)).size + ((⟨#[48, 49, 50, 51, 52, 53, 54, 55, 56, 57]⟩ : ByteArray).extract ((Int.tmod (rd (rd_L2 x352001 x5) x4) 10) : Int).toNat ((wrap64 ((Int.tmod (rd (rd_L2 x352001 x5) x4) 10) + 1)) : Int).toNat).size ≤ 9223372036854775807 then (spec_l9Text.l1 k ((x3 ++ ((⟨#[48, 49, 50, 51, 52, 53, 54, 55, 56, 57]⟩ : ByteArray).extract ((wrap64 (Int.tdiv (rd (rd_L2 x352001 x5) x4) 10)) : Int).toNat ((wrap64 ((wrap64 (Int.tdiv (rd (rd_L2 x352001 x5) x4) 10)) + 1)) : Int).toNat)) ++ ((⟨#[48, 49, 50, 51, 52, 53, 54, 55, 56, 57]⟩ : ByteArray).extract ((Int.tmod (rd (rd_L2 x352001 x5) x4) 10) : Int).toNat ((wrap64 ((Int.tmod (rd (rd_L2 x352001 x5) x4) 10) + 1)) : Int).toNat)) x4 (wrap64 (x5 + 1)) x352000 x352001) else (none)) else (none)) else (none)) else (none)) else (none)) else (none)) else (none)) else (none)) else (none)) else (none))) else (none))) else (if x3.size + 1 ≤ 9223372036854775807 then (spec_l9Text.l0 k (x3 ++ (⟨#[10]⟩ : ByteArray)) (wrap64 (x4 - 1)) x352000 x352001) else (none))
end
def spec_l9Text.f (k : Nat) (a0_0 : Int) (l0_1 : List (List Int)) : Option (ByteArray) := spec_l9Text.l0 k (⟨#[]⟩ : ByteArray) (wrap64 (a0_0 - 1)) a0_0 l0_1
theorem spec_l9Text.mono_l : ∀ k, (∀ y0 y1 y2 y3, LeO (spec_l9Text.l0 k y0 y1 y2 y3) (spec_l9Text.l0 (k + 1) y0 y1 y2 y3)) ∧ (∀ y0 y1 y2 y3 y4, LeO (spec_l9Text.l1 k y0 y1 y2 y3 y4) (spec_l9Text.l1 (k + 1) y0 y1 y2 y3 y4))
 | 0 => ⟨fun _ _ _ _ r h => by simp [spec_l9Text.l0] at h, fun _ _ _ _ _ r h => by simp [spec_l9Text.l1] at h⟩
 | k + 1 => by
  obtain ⟨ih0, ih1⟩ := spec_l9Text.mono_l k
  refine ⟨?_, ?_⟩
  ·intro y0 y1 y2 y3
   unfold spec_l9Text.l0
   repeat' first
   | (with_reducible exact ih0 _ _ _ _)
   | (with_reducible exact ih1 _ _ _ _ _)
   | (with_reducible exact LeO.refl _)
   | (with_reducible exact LeO.none _)
   | (with_reducible refine LeO.ite ?_ ?_)
   | (with_reducible refine LeO.bind ?_ (fun _ => ?_))
   | exact ih0 _ _ _ _
   | exact ih1 _ _ _ _ _
   | exact LeO.none _
   | refine LeO.ite ?_ ?_
   | refine LeO.bind ?_ (fun _ => ?_)
  ·intro y0 y1 y2 y3 y4
   unfold spec_l9Text.l1
   repeat' first
   | (with_reducible exact ih0 _ _ _ _)
   | (with_reducible exact ih1 _ _ _ _ _)
   | (with_reducible exact LeO.refl _)
   | (with_reducible exact LeO.none _)
   | (with_reducible refine LeO.ite ?_ ?_)
   | (with_reducible refine LeO.bind ?_ (fun _ => ?_))
   | exact ih0 _ _ _ _
   | exact ih1 _ _ _ _ _
   | exact LeO.none _
   | refine LeO.ite ?_ ?_
   | refine LeO.bind ?_ (fun _ => ?_)
theorem spec_l9Text.mono : ∀ a0 a1 k, LeO (spec_l9Text.f k a0 a1) (spec_l9Text.f (k + 1) a0 a1) := by
 intro a0 a1 k
 obtain ⟨ih0, ih1⟩ := spec_l9Text.mono_l k
 unfold spec_l9Text.f
 repeat' first
   | (with_reducible exact ih0 _ _ _ _)
   | (with_reducible exact ih1 _ _ _ _ _)
   | (with_reducible exact LeO.refl _)
   | (with_reducible exact LeO.none _)
   | (with_reducible refine LeO.ite ?_ ?_)
   | (with_reducible refine LeO.bind ?_ (fun _ => ?_))
   | exact ih0 _ _ _ _
   | exact ih1 _ _ _ _ _
   | exact LeO.none _
   | refine LeO.ite ?_ ?_
   | refine LeO.bind ?_ (fun _ => ?_)
set_option maxHeartbeats 8000000 in
set_option maxRecDepth 100000 in
theorem spec_l9Text.calls (k : Nat) (a0_0 : Int) (A0_1 : Option Addr) (c0_1 : Nat) (l0_1 : List (List Int)) (r : ByteArray) (w : World) (hr0_1 : Kd.C (Kd.slice 3 (Kd.int .i64)) w A0_1 l0_1.length l0_1) (hc0_1 : l0_1.length ≤ c0_1) (h : spec_l9Text.f k a0_0 l0_1 = some r) :
  Calls Tryz.prog 33 #[.agg #[.int .i64 a0_0, .slice A0_1 l0_1.length c0_1]] w fun e w' => e = .returned (.string r) ∧ Below w.heap.size w w' := by
 have hu26 := Tryz.underlying26
 have HR0_1 := Aside0.mk hr0_1
 have HC0_1 := Aside0.mk hc0_1
 clear hr0_1 hc0_1
 have HB := Aside0.mk (Below.refl w.heap.size w)
 have H : (spec_l9Text.l0 k (⟨#[]⟩ : ByteArray) (wrap64 (a0_0 - 1)) a0_0 l0_1) = some r := h
 clear h
 have H' := Aside0.mk H
 clear H
 go_enter Tryz.func33, Tryz.ntmps33
 go_wp2_with (first | ((with_reducible refine gate_dst (N := 1) rfl ?_); refine box_event ?hg (N := 1) ?hd (cs := #[.int .i64 a0_0, .slice A0_1 l0_1.length c0_1]) (t := 26) ?hr ?_; (case hd => rfl); (case hg => rfl); (case hr => first | (go_simp; done) | (go_simp; rfl)); intro gb351 hg w2 hbox hb; have n0_ := Aside0.mk (below_step (bel HB) hb); have n1_ := Aside0.mk (hbox); have n2_ := Aside0.mk ((by rw [hg]; exact (below_size (bel HB)) : w.heap.size ≤ gb351)); have n3_ := Aside0.mk ((by rw [hg]; exact (below_size (bel HB)) : w.heap.size ≤ gb351)); clear HB; have HB := n0_; have BK351 := n1_; have GW351 := n2_; have GE351 := n3_; clear n0_ n1_ n2_ n3_; clear hb hbox hg; have hcz3_0 : w2.cell? ⟨gb351, 0, none⟩ = some (.int .i64 a0_0) := (blk_cell BK351.out 0).trans rfl; have hcz3_1 : w2.cell? ⟨gb351, 1, none⟩ = some (.slice A0_1 l0_1.length c0_1) := (blk_cell BK351.out 1).trans rfl; have hfz3_0 := blk_frozen BK351.out 0; have hfz3_1 := blk_frozen BK351.out 1))
 repeat (go_quiet (first | ((with_reducible refine gate_dst (N := 1) rfl ?_); refine box_event ?hg (N := 1) ?hd (cs := #[.int .i64 a0_0, .slice A0_1 l0_1.length c0_1]) (t := 26) ?hr ?_; (case hd => rfl); (case hg => rfl); (case hr => first | (go_simp; done) | (go_simp; rfl)); intro gb351 hg w2 hbox hb; have n0_ := Aside0.mk (below_step (bel HB) hb); have n1_ := Aside0.mk (hbox); have n2_ := Aside0.mk ((by rw [hg]; exact (below_size (bel HB)) : w.heap.size ≤ gb351)); have n3_ := Aside0.mk ((by rw [hg]; exact (below_size (bel HB)) : w.heap.size ≤ gb351)); clear HB; have HB := n0_; have BK351 := n1_; have GW351 := n2_; have GE351 := n3_; clear n0_ n1_ n2_ n3_; clear hb hbox hg; have hcz3_0 : w2.cell? ⟨gb351, 0, none⟩ = some (.int .i64 a0_0) := (blk_cell BK351.out 0).trans rfl; have hcz3_1 : w2.cell? ⟨gb351, 1, none⟩ = some (.slice A0_1 l0_1.length c0_1) := (blk_cell BK351.out 1).trans rfl; have hfz3_0 := blk_frozen BK351.out 0; have hfz3_1 := blk_frozen BK351.out 1)); try go_wp2_with (first | ((with_reducible refine gate_dst (N := 1) rfl ?_); refine box_event ?hg (N := 1) ?hd (cs := #[.int .i64 a0_0, .slice A0_1 l0_1.length c0_1]) (t := 26) ?hr ?_; (case hd => rfl); (case hg => rfl); (case hr => first | (go_simp; done) | (go_simp; rfl)); intro gb351 hg w2 hbox hb; have n0_ := Aside0.mk (below_step (bel HB) hb); have n1_ := Aside0.mk (hbox); have n2_ := Aside0.mk ((by rw [hg]; exact (below_size (bel HB)) : w.heap.size ≤ gb351)); have n3_ := Aside0.mk ((by rw [hg]; exact (below_size (bel HB)) : w.heap.size ≤ gb351)); clear HB; have HB := n0_; have BK351 := n1_; have GW351 := n2_; have GE351 := n3_; clear n0_ n1_ n2_ n3_; clear hb hbox hg; have hcz3_0 : w2.cell? ⟨gb351, 0, none⟩ = some (.int .i64 a0_0) := (blk_cell BK351.out 0).trans rfl; have hcz3_1 : w2.cell? ⟨gb351, 1, none⟩ = some (.slice A0_1 l0_1.length c0_1) := (blk_cell BK351.out 1).trans rfl; have hfz3_0 := blk_frozen BK351.out 0; have hfz3_1 := blk_frozen BK351.out 1)))
 go_loopg [3, 4] k (fun kq v3 v4 w' => ∃ (x3_1 : ByteArray) (x4_1 : Int), v3 = .string x3_1 ∧ v4 = .int .i64 x4_1 ∧ Aside0 (spec_l9Text.l0 kq x3_1 x4_1 a0_0 l0_1 = some r) ∧ Aside0 (kq ≤ k) ∧ Aside0 (w'.heap[gb351]? = some (.cells #[.int .i64 a0_0, (.slice A0_1 l0_1.length c0_1)] 26 (0, 0))) ∧ Aside0 (Below w.heap.size w w'))
 case atStart => exact ⟨((⟨#[]⟩ : ByteArray)), (wrap64 (a0_0 - 1)), (by first | rfl | (simp; done) | (simp [*]; done)), (by first | rfl | (simp; done) | (simp [*]; done)), H', ⟨Nat.le_refl _⟩, ⟨bkl BK351⟩, ⟨bel1 HB GE351⟩⟩
 clear H'
 try clear p2
 try clear c3
 try clear hcz3_0
 try clear hcz3_1
 try clear hfz3_0
 try clear hfz3_1
 obtain ⟨x3_1, x4_1, rfl, rfl, HA, HK1, BK351, HB⟩ := hrel
 cases gk with
 | zero => exact absurd HA.out (by simp [spec_l9Text.l0])
 | succ k1 =>
  have H := HA.out
  clear HA
  simp only [spec_l9Text.l0] at H
  by_cases c4 : x4_1 ≥ 0
  rotate_left
  ·rw [if_neg c4] at H
   have c4b0 : decide (0 ≤ x4_1) = false := decide_eq_false c4
   clear c4
   obtain rfl := Option.some.inj H
   go_wp2
   repeat (go_quiet (fail); try go_wp2)
   go_ret
   exact ⟨by first | rfl | (simp [errW_none, errW_some] <;> rfl) | (simp [*, errW_none, errW_some] <;> rfl), bel1 HB GE351⟩
  rw [if_pos c4] at H
  have c4b0 : decide (0 ≤ x4_1) = true := decide_eq_true c4
  clear c4
  have H' := Aside0.mk H
  clear H
  go_wp2
  repeat (go_quiet (fail); try go_wp2)
  go_loopg [3, 5] k1 (fun kq v3 v5 w' => ∃ (x3_2 : ByteArray) (x5_2 : Int), v3 = .string x3_2 ∧ v5 = .int .i64 x5_2 ∧ Aside0 (spec_l9Text.l1 kq x3_2 x4_1 x5_2 a0_0 l0_1 = some r) ∧ Aside0 (kq ≤ k1) ∧ Aside0 (w'.heap[gb351]? = some (.cells #[.int .i64 a0_0, (.slice A0_1 l0_1.length c0_1)] 26 (0, 0))) ∧ Aside0 (Below w.heap.size w w'))
  case atStart => exact ⟨(x3_1), (0), (by first | rfl | (simp; done) | (simp [*]; done)), (by first | rfl | (simp; done) | (simp [*]; done)), H', ⟨Nat.le_refl _⟩, ⟨bkl BK351⟩, ⟨bel1 HB GE351⟩⟩
  clear H'
  try clear p2
  try clear c3
  try clear c4
  try clear c4b0
  try clear hcz3_0
  try clear hcz3_1
  try clear hfz3_0
  try clear hfz3_1
  try clear p2
  obtain ⟨x3_2, x5_2, rfl, rfl, HA, HK2, BK351, HB⟩ := hrel
  cases gk with
  | zero => exact absurd HA.out (by simp [spec_l9Text.l1])
  | succ k2 =>
   have H := HA.out
   clear HA
   simp only [spec_l9Text.l1] at H
   by_cases c5 : x5_2 < (l0_1.length : Int)
   rotate_left
   ·rw [if_neg c5] at H
    have c5b0 : decide (x5_2 < (l0_1.length : Int)) = false := decide_eq_false c5
    clear c5
    by_cases c42 : x3_2.size + 1 ≤ 9223372036854775807
    rotate_left
    ·rw [if_neg c42] at H
     exact absurd H (by simp)
    rw [if_pos c42] at H
    have c42b0 := eq_true c42
    have c42b1 : decide (x3_2.size + 1 ≤ 9223372036854775807) = true := decide_eq_true c42
    try have c42b2 : (9223372036854775807 < x3_2.size + 1) = False := eq_false (Nat.not_lt.2 c42)
    have H' := Aside0.mk H
    clear H
    have hcz43_0 : wr.cell? ⟨gb351, 0, none⟩ = some (.int .i64 a0_0) := (blk_cell BK351.out 0).trans rfl
    have hcz43_1 : wr.cell? ⟨gb351, 1, none⟩ = some (.slice A0_1 l0_1.length c0_1) := (blk_cell BK351.out 1).trans rfl
    have hfz43_0 := blk_frozen BK351.out 0
    have hfz43_1 := blk_frozen BK351.out 1
    go_wp2
    repeat (go_quiet (fail); try go_wp2)
    go_roundg k2
    case measure => have := HK1.out; have := HK2.out; omega
    case rel => exact ⟨(x3_2 ++ (⟨#[10]⟩ : ByteArray)), (wrap64 (x4_1 - 1)), (by first | rfl | (simp; done) | (simp [*]; done)), (by first | rfl | (simp; done) | (simp [*]; done)), H', ⟨by have := HK1.out; have := HK2.out; omega⟩, ⟨bkl BK351⟩, ⟨bel1 HB GE351⟩⟩
   rw [if_pos c5] at H
   have c5b0 : decide (x5_2 < (l0_1.length : Int)) = true := decide_eq_true c5
   clear c5
   by_cases c6 : x5_2 > 0
   rotate_left
   ·rw [if_neg c6] at H
    have c6b0 : decide (0 < x5_2) = false := decide_eq_false c6
    clear c6
    by_cases c25 : 0 ≤ x5_2
    rotate_left
    ·rw [if_neg c25] at H
     exact absurd H (by simp)
    rw [if_pos c25] at H
    have c25b0 : decide (0 ≤ x5_2) = true := decide_eq_true c25
    clear c25
    by_cases c26 : x4_1 ≥ ((rd_L2 l0_1 x5_2).length : Int)
    ·rw [if_pos c26] at H
     have c26b0 : decide (((rd_L2 l0_1 x5_2).length : Int) ≤ x4_1) = true := decide_eq_true c26
     clear c26
     by_cases c27 : x3_2.size + 2 ≤ 9223372036854775807
     rotate_left
     ·rw [if_neg c27] at H
      exact absurd H (by simp)
     rw [if_pos c27] at H
     have c27b0 := eq_true c27
     have c27b1 : decide (x3_2.size + 2 ≤ 9223372036854775807) = true := decide_eq_true c27
     try have c27b2 : (9223372036854775807 < x3_2.size + 2) = False := eq_false (Nat.not_lt.2 c27)
     have H' := Aside0.mk H
     clear H
     have hcz28_0 : wr.cell? ⟨gb351, 0, none⟩ = some (.int .i64 a0_0) := (blk_cell BK351.out 0).trans rfl
     have hcz28_1 : wr.cell? ⟨gb351, 1, none⟩ = some (.slice A0_1 l0_1.length c0_1) := (blk_cell BK351.out 1).trans rfl
     have hfz28_0 := blk_frozen BK351.out 0
     have hfz28_1 := blk_frozen BK351.out 1
     have p355 : 0 ≤ (x5_2 : Int) := oda
     have q355 : x5_2 < (l0_1.length : Int) := oda
     obtain ⟨ad355, A355_0, c355_0, e355, hx355_0, hl355_0, hi355_0⟩ := at_L2 HR0_1.out x5_2 p355 q355
     cases e355
     replace hx355_0 := cel HB hx355_0
     have HR355_0 := Aside0.mk hi355_0
     have HC355_0 := Aside0.mk hl355_0
     clear hi355_0 hl355_0
     replace p355 := eq_true p355
     replace q355 := eq_true q355
     go_wp2
     repeat (go_quiet (fail); try go_wp2)
     go_roundg k2
     case measure => have := HK1.out; have := HK2.out; omega
     case rel => exact ⟨(x3_2 ++ (⟨#[46, 46]⟩ : ByteArray)), (wrap64 (x5_2 + 1)), (by first | rfl | (simp; done) | (simp [*]; done)), (by first | rfl | (simp; done) | (simp [*]; done)), H', ⟨by have := HK1.out; have := HK2.out; omega⟩, ⟨bkl BK351⟩, ⟨bel1 HB GE351⟩⟩
    rw [if_neg c26] at H
    have c26b0 : decide (((rd_L2 l0_1 x5_2).length : Int) ≤ x4_1) = false := decide_eq_false c26
    clear c26
    by_cases c29 : 0 ≤ x4_1
    rotate_left
    ·rw [if_neg c29] at H
     exact absurd H (by simp)
    rw [if_pos c29] at H
    have c29b0 : decide (0 ≤ x4_1) = true := decide_eq_true c29
    clear c29
    by_cases c30 : x4_1 < ((rd_L2 l0_1 x5_2).length : Int)
    rotate_left
    ·rw [if_neg c30] at H
     exact absurd H (by simp)
    rw [if_pos c30] at H
    have c30b0 : decide (x4_1 < ((rd_L2 l0_1 x5_2).length : Int)) = true := decide_eq_true c30
    clear c30
    obtain ⟨ji31, hji31⟩ : ∃ j_ : Int, (wrap64 (Int.tdiv (rd (rd_L2 l0_1 x5_2) x4_1) 10)) = j_ := ⟨_, rfl⟩
    replace H : (if 0 ≤ (ji31) then (if (ji31) ≤ (wrap64 ((ji31) + 1)) then (if (wrap64 ((ji31) + 1)) ≤ 10 then (if x3_2.size + ((⟨#[48, 49, 50, 51, 52, 53, 54, 55, 56, 57]⟩ : ByteArray).extract ((ji31) : Int).toNat ((wrap64 ((ji31) + 1)) : Int).toNat).size ≤ 9223372036854775807 then (if 0 ≤ (Int.tmod (rd (rd_L2 l0_1 x5_2) x4_1) 10) then (if (Int.tmod (rd (rd_L2 l0_1 x5_2) x4_1) 10) ≤ (wrap64 ((Int.tmod (rd (rd_L2 l0_1 x5_2) x4_1) 10) + 1)) then (if (wrap64 ((Int.tmod (rd (rd_L2 l0_1 x5_2) x4_1) 10) + 1)) ≤ 10 then (if (x3_2 ++ ((⟨#[48, 49, 50, 51, 52, 53, 54, 55, 56, 57]⟩ : ByteArray).extract ((ji31) : Int).toNat ((wrap64 ((ji31) + 1)) : Int).toNat)).size + ((⟨#[48, 49, 50, 51, 52, 53, 54, 55, 56, 57]⟩ : ByteArray).extract ((Int.tmod (rd (rd_L2 l0_1 x5_2) x4_1) 10) : Int).toNat ((wrap64 ((Int.tmod (rd (rd_L2 l0_1 x5_2) x4_1) 10) + 1)) : Int).toNat).size ≤ 9223372036854775807 then (spec_l9Text.l1 k2 ((x3_2 ++ ((⟨#[48, 49, 50, 51, 52, 53, 54, 55, 56, 57]⟩ : ByteArray).extract ((ji31) : Int).toNat ((wrap64 ((ji31) + 1)) : Int).toNat)) ++ ((⟨#[48, 49, 50, 51, 52, 53, 54, 55, 56, 57]⟩ : ByteArray).extract ((Int.tmod (rd (rd_L2 l0_1 x5_2) x4_1) 10) : Int).toNat ((wrap64 ((Int.tmod (rd (rd_L2 l0_1 x5_2) x4_1) 10) + 1)) : Int).toNat)) x4_1 (wrap64 (x5_2 + 1)) a0_0 l0_1) else (none)) else (none)) else (none)) else (none)) else (none)) else (none)) else (none)) else (none)) = some r := by first | (rw [hji31] at H; exact H) | (simp only [hji31] at H ⊢; exact H)
    have hji31w : (IntKind.i64.wrap (Int.tdiv (rd (rd_L2 l0_1 x5_2) x4_1) 10)) = ji31 := (i64_w _).trans hji31
    by_cases c32 : 0 ≤ (ji31)
    rotate_left
    ·rw [if_neg c32] at H
     exact absurd H (by simp)
    rw [if_pos c32] at H
    have c32b0 := eq_true c32
    have c32b1 : decide (0 ≤ (ji31)) = true := decide_eq_true c32
    clear c32
    by_cases c33 : (ji31) ≤ (wrap64 ((ji31) + 1))
    rotate_left
    ·rw [if_neg c33] at H
     exact absurd H (by simp)
    rw [if_pos c33] at H
    have c33b0 := eq_true c33
    have c33b1 : decide ((ji31) ≤ (wrap64 ((ji31) + 1))) = true := decide_eq_true c33
    by_cases c34 : (wrap64 ((ji31) + 1)) ≤ 10
    rotate_left
    ·rw [if_neg c34] at H
     exact absurd H (by simp)
    rw [if_pos c34] at H
    have c34b0 := eq_true c34
    have c34b1 : decide ((wrap64 ((ji31) + 1)) ≤ 10) = true := decide_eq_true c34
    by_cases c35 : x3_2.size + ((⟨#[48, 49, 50, 51, 52, 53, 54, 55, 56, 57]⟩ : ByteArray).extract ((ji31) : Int).toNat ((wrap64 ((ji31) + 1)) : Int).toNat).size ≤ 9223372036854775807
    rotate_left
    ·rw [if_neg c35] at H
     exact absurd H (by simp)
    rw [if_pos c35] at H
    have c35b0 := eq_true c35
    have c35b1 : decide (x3_2.size + ((⟨#[48, 49, 50, 51, 52, 53, 54, 55, 56, 57]⟩ : ByteArray).extract ((ji31) : Int).toNat ((wrap64 ((ji31) + 1)) : Int).toNat).size ≤ 9223372036854775807) = true := decide_eq_true c35
    try have c35b2 : (9223372036854775807 < x3_2.size + ((⟨#[48, 49, 50, 51, 52, 53, 54, 55, 56, 57]⟩ : ByteArray).extract ((ji31) : Int).toNat ((wrap64 ((ji31) + 1)) : Int).toNat).size) = False := eq_false (Nat.not_lt.2 c35)
    try have c35b3 : (9223372036854775807 < x3_2.size + ((((wrap64 ((ji31) + 1)) : Int).toNat - ((ji31) : Int).toNat))) = False := eq_false (Nat.not_lt.2 (by have h_ := c35; simp only [ByteArray.size_append, ByteArray.size_extract] at h_; (try rw [show (⟨#[48, 49, 50, 51, 52, 53, 54, 55, 56, 57]⟩ : ByteArray).size = 10 from rfl] at h_); omega))
    obtain ⟨ji36, hji36⟩ : ∃ j_ : Int, (Int.tmod (rd (rd_L2 l0_1 x5_2) x4_1) 10) = j_ := ⟨_, rfl⟩
    replace H : (if 0 ≤ (ji36) then (if (ji36) ≤ (wrap64 ((ji36) + 1)) then (if (wrap64 ((ji36) + 1)) ≤ 10 then (if (x3_2 ++ ((⟨#[48, 49, 50, 51, 52, 53, 54, 55, 56, 57]⟩ : ByteArray).extract ((ji31) : Int).toNat ((wrap64 ((ji31) + 1)) : Int).toNat)).size + ((⟨#[48, 49, 50, 51, 52, 53, 54, 55, 56, 57]⟩ : ByteArray).extract ((ji36) : Int).toNat ((wrap64 ((ji36) + 1)) : Int).toNat).size ≤ 9223372036854775807 then (spec_l9Text.l1 k2 ((x3_2 ++ ((⟨#[48, 49, 50, 51, 52, 53, 54, 55, 56, 57]⟩ : ByteArray).extract ((ji31) : Int).toNat ((wrap64 ((ji31) + 1)) : Int).toNat)) ++ ((⟨#[48, 49, 50, 51, 52, 53, 54, 55, 56, 57]⟩ : ByteArray).extract ((ji36) : Int).toNat ((wrap64 ((ji36) + 1)) : Int).toNat)) x4_1 (wrap64 (x5_2 + 1)) a0_0 l0_1) else (none)) else (none)) else (none)) else (none)) = some r := by first | (rw [hji36] at H; exact H) | (simp only [hji36] at H ⊢; exact H)
    by_cases c37 : 0 ≤ (ji36)
    rotate_left
    ·rw [if_neg c37] at H
     exact absurd H (by simp)
    rw [if_pos c37] at H
    have c37b0 := eq_true c37
    have c37b1 : decide (0 ≤ (ji36)) = true := decide_eq_true c37
    clear c37
    by_cases c38 : (ji36) ≤ (wrap64 ((ji36) + 1))
    rotate_left
    ·rw [if_neg c38] at H
     exact absurd H (by simp)
    rw [if_pos c38] at H
    have c38b0 := eq_true c38
    have c38b1 : decide ((ji36) ≤ (wrap64 ((ji36) + 1))) = true := decide_eq_true c38
    by_cases c39 : (wrap64 ((ji36) + 1)) ≤ 10
    rotate_left
    ·rw [if_neg c39] at H
     exact absurd H (by simp)
    rw [if_pos c39] at H
    have c39b0 := eq_true c39
    have c39b1 : decide ((wrap64 ((ji36) + 1)) ≤ 10) = true := decide_eq_true c39
    by_cases c40 : (x3_2 ++ ((⟨#[48, 49, 50, 51, 52, 53, 54, 55, 56, 57]⟩ : ByteArray).extract ((ji31) : Int).toNat ((wrap64 ((ji31) + 1)) : Int).toNat)).size + ((⟨#[48, 49, 50, 51, 52, 53, 54, 55, 56, 57]⟩ : ByteArray).extract ((ji36) : Int).toNat ((wrap64 ((ji36) + 1)) : Int).toNat).size ≤ 9223372036854775807
    rotate_left
    ·rw [if_neg c40] at H
     exact absurd H (by simp)
    rw [if_pos c40] at H
    have c40b0 := eq_true c40
    have c40b1 : decide ((x3_2 ++ ((⟨#[48, 49, 50, 51, 52, 53, 54, 55, 56, 57]⟩ : ByteArray).extract ((ji31) : Int).toNat ((wrap64 ((ji31) + 1)) : Int).toNat)).size + ((⟨#[48, 49, 50, 51, 52, 53, 54, 55, 56, 57]⟩ : ByteArray).extract ((ji36) : Int).toNat ((wrap64 ((ji36) + 1)) : Int).toNat).size ≤ 9223372036854775807) = true := decide_eq_true c40
    try have c40b2 : (9223372036854775807 < (x3_2 ++ ((⟨#[48, 49, 50, 51, 52, 53, 54, 55, 56, 57]⟩ : ByteArray).extract ((ji31) : Int).toNat ((wrap64 ((ji31) + 1)) : Int).toNat)).size + ((⟨#[48, 49, 50, 51, 52, 53, 54, 55, 56, 57]⟩ : ByteArray).extract ((ji36) : Int).toNat ((wrap64 ((ji36) + 1)) : Int).toNat).size) = False := eq_false (Nat.not_lt.2 c40)
    try have c40b3 : (9223372036854775807 < x3_2.size + (((wrap64 ((ji31) + 1)) : Int).toNat - ((ji31) : Int).toNat) + ((((wrap64 ((ji36) + 1)) : Int).toNat - ((ji36) : Int).toNat))) = False := eq_false (Nat.not_lt.2 (by have h_ := c40; simp only [ByteArray.size_append, ByteArray.size_extract] at h_; (try rw [show (⟨#[48, 49, 50, 51, 52, 53, 54, 55, 56, 57]⟩ : ByteArray).size = 10 from rfl] at h_); omega))
    have H' := Aside0.mk H
    clear H
    have hcz41_0 : wr.cell? ⟨gb351, 0, none⟩ = some (.int .i64 a0_0) := (blk_cell BK351.out 0).trans rfl
    have hcz41_1 : wr.cell? ⟨gb351, 1, none⟩ = some (.slice A0_1 l0_1.length c0_1) := (blk_cell BK351.out 1).trans rfl
    have hfz41_0 := blk_frozen BK351.out 0
    have hfz41_1 := blk_frozen BK351.out 1
    have p355 : 0 ≤ (x5_2 : Int) := oda
    have q355 : x5_2 < (l0_1.length : Int) := oda
    obtain ⟨ad355, A355_0, c355_0, e355, hx355_0, hl355_0, hi355_0⟩ := at_L2 HR0_1.out x5_2 p355 q355
    cases e355
    replace hx355_0 := cel HB hx355_0
    have HR355_0 := Aside0.mk hi355_0
    have HC355_0 := Aside0.mk hl355_0
    clear hi355_0 hl355_0
    replace p355 := eq_true p355
    replace q355 := eq_true q355
    have p356 : 0 ≤ (x5_2 : Int) := oda
    have q356 : x5_2 < (l0_1.length : Int) := oda
    obtain ⟨ad356, A356_0, c356_0, e356, hx356_0, hl356_0, hi356_0⟩ := at_L2 HR0_1.out x5_2 p356 q356
    obtain rfl : ad355 = ad356 := (by injection e356)
    replace hx356_0 := cel HB hx356_0
    have HR356_0 := Aside0.mk hi356_0
    have HC356_0 := Aside0.mk hl356_0
    clear hi356_0 hl356_0
    replace p356 := eq_true p356
    replace q356 := eq_true q356
    have ea_ := Option.some.inj (hx355_0.symm.trans hx356_0)
    injection ea_ with ea_ en_ ec_
    subst ea_
    subst ec_
    clear en_
    have p357 : 0 ≤ (x4_1 : Int) := oda
    have q357 : x4_1 < ((rd_L2 l0_1 x5_2).length : Int) := oda
    obtain ⟨ad357, e357, hx357_0⟩ := Kd.at_int HR356_0.out x4_1 p357 q357
    cases e357
    replace hx357_0 := cel HB hx357_0
    replace p357 := eq_true p357
    replace q357 := eq_true q357
    go_wp2
    repeat (go_quiet (fail); try go_wp2)
    go_roundg k2
    case measure => have := HK1.out; have := HK2.out; omega
    case rel => exact ⟨((x3_2 ++ ((⟨#[48, 49, 50, 51, 52, 53, 54, 55, 56, 57]⟩ : ByteArray).extract ((ji31) : Int).toNat ((wrap64 ((ji31) + 1)) : Int).toNat)) ++ ((⟨#[48, 49, 50, 51, 52, 53, 54, 55, 56, 57]⟩ : ByteArray).extract ((ji36) : Int).toNat ((wrap64 ((ji36) + 1)) : Int).toNat)), (wrap64 (x5_2 + 1)), (by first | rfl | (simp; done) | (simp only [← hji31, ← hji36] <;> (first | rfl | simp)) | (simp [*]; done)), (by first | rfl | (simp; done) | (simp [*]; done)), H', ⟨by have := HK1.out; have := HK2.out; omega⟩, ⟨bkl BK351⟩, ⟨bel1 HB GE351⟩⟩
   rw [if_pos c6] at H
   have c6b0 : decide (0 < x5_2) = true := decide_eq_true c6
   clear c6
   by_cases c7 : x3_2.size + 1 ≤ 9223372036854775807
   rotate_left
   ·rw [if_neg c7] at H
    exact absurd H (by simp)
   rw [if_pos c7] at H
   have c7b0 := eq_true c7
   have c7b1 : decide (x3_2.size + 1 ≤ 9223372036854775807) = true := decide_eq_true c7
   try have c7b2 : (9223372036854775807 < x3_2.size + 1) = False := eq_false (Nat.not_lt.2 c7)
   by_cases c8 : 0 ≤ x5_2
   rotate_left
   ·rw [if_neg c8] at H
    exact absurd H (by simp)
   rw [if_pos c8] at H
   have c8b0 : decide (0 ≤ x5_2) = true := decide_eq_true c8
   clear c8
   by_cases c9 : x4_1 ≥ ((rd_L2 l0_1 x5_2).length : Int)
   ·rw [if_pos c9] at H
    have c9b0 : decide (((rd_L2 l0_1 x5_2).length : Int) ≤ x4_1) = true := decide_eq_true c9
    clear c9
    by_cases c10 : (x3_2 ++ (⟨#[32]⟩ : ByteArray)).size + 2 ≤ 9223372036854775807
    rotate_left
    ·rw [if_neg c10] at H
     exact absurd H (by simp)
    rw [if_pos c10] at H
    have c10b0 := eq_true c10
    have c10b1 : decide ((x3_2 ++ (⟨#[32]⟩ : ByteArray)).size + 2 ≤ 9223372036854775807) = true := decide_eq_true c10
    try have c10b2 : (9223372036854775807 < (x3_2 ++ (⟨#[32]⟩ : ByteArray)).size + 2) = False := eq_false (Nat.not_lt.2 c10)
    try have c10b3 : (9223372036854775807 < x3_2.size + 1 + 2) = False := eq_false (Nat.not_lt.2 (by have h_ := c10; first | (rw [ByteArray.size_append] at h_; exact h_) | (simp only [ByteArray.size_append, ByteArray.size_extract] at h_; exact h_) | (simp at h_; omega) | (simp [ByteArray.size] at h_ ⊢; omega)))
    have H' := Aside0.mk H
    clear H
    have hcz11_0 : wr.cell? ⟨gb351, 0, none⟩ = some (.int .i64 a0_0) := (blk_cell BK351.out 0).trans rfl
    have hcz11_1 : wr.cell? ⟨gb351, 1, none⟩ = some (.slice A0_1 l0_1.length c0_1) := (blk_cell BK351.out 1).trans rfl
    have hfz11_0 := blk_frozen BK351.out 0
    have hfz11_1 := blk_frozen BK351.out 1
    have p352 : 0 ≤ (x5_2 : Int) := oda
    have q352 : x5_2 < (l0_1.length : Int) := oda
    obtain ⟨ad352, A352_0, c352_0, e352, hx352_0, hl352_0, hi352_0⟩ := at_L2 HR0_1.out x5_2 p352 q352
    cases e352
    replace hx352_0 := cel HB hx352_0
    have HR352_0 := Aside0.mk hi352_0
    have HC352_0 := Aside0.mk hl352_0
    clear hi352_0 hl352_0
    replace p352 := eq_true p352
    replace q352 := eq_true q352
    go_wp2
    repeat (go_quiet (fail); try go_wp2)
    go_roundg k2
    case measure => have := HK1.out; have := HK2.out; omega
    case rel => exact ⟨((x3_2 ++ (⟨#[32]⟩ : ByteArray)) ++ (⟨#[46, 46]⟩ : ByteArray)), (wrap64 (x5_2 + 1)), (by first | rfl | (simp; done) | (simp [*]; done)), (by first | rfl | (simp; done) | (simp [*]; done)), H', ⟨by have := HK1.out; have := HK2.out; omega⟩, ⟨bkl BK351⟩, ⟨bel1 HB GE351⟩⟩
   rw [if_neg c9] at H
   have c9b0 : decide (((rd_L2 l0_1 x5_2).length : Int) ≤ x4_1) = false := decide_eq_false c9
   clear c9
   by_cases c12 : 0 ≤ x4_1
   rotate_left
   ·rw [if_neg c12] at H
    exact absurd H (by simp)
   rw [if_pos c12] at H
   have c12b0 : decide (0 ≤ x4_1) = true := decide_eq_true c12
   clear c12
   by_cases c13 : x4_1 < ((rd_L2 l0_1 x5_2).length : Int)
   rotate_left
   ·rw [if_neg c13] at H
    exact absurd H (by simp)
   rw [if_pos c13] at H
   have c13b0 : decide (x4_1 < ((rd_L2 l0_1 x5_2).length : Int)) = true := decide_eq_true c13
   clear c13
   obtain ⟨ji14, hji14⟩ : ∃ j_ : Int, (wrap64 (Int.tdiv (rd (rd_L2 l0_1 x5_2) x4_1) 10)) = j_ := ⟨_, rfl⟩
   replace H : (if 0 ≤ (ji14) then (if (ji14) ≤ (wrap64 ((ji14) + 1)) then (if (wrap64 ((ji14) + 1)) ≤ 10 then (if (x3_2 ++ (⟨#[32]⟩ : ByteArray)).size + ((⟨#[48, 49, 50, 51, 52, 53, 54, 55, 56, 57]⟩ : ByteArray).extract ((ji14) : Int).toNat ((wrap64 ((ji14) + 1)) : Int).toNat).size ≤ 9223372036854775807 then (if 0 ≤ (Int.tmod (rd (rd_L2 l0_1 x5_2) x4_1) 10) then (if (Int.tmod (rd (rd_L2 l0_1 x5_2) x4_1) 10) ≤ (wrap64 ((Int.tmod (rd (rd_L2 l0_1 x5_2) x4_1) 10) + 1)) then (if (wrap64 ((Int.tmod (rd (rd_L2 l0_1 x5_2) x4_1) 10) + 1)) ≤ 10 then (if ((x3_2 ++ (⟨#[32]⟩ : ByteArray)) ++ ((⟨#[48, 49, 50, 51, 52, 53, 54, 55, 56, 57]⟩ : ByteArray).extract ((ji14) : Int).toNat ((wrap64 ((ji14) + 1)) : Int).toNat)).size + ((⟨#[48, 49, 50, 51, 52, 53, 54, 55, 56, 57]⟩ : ByteArray).extract ((Int.tmod (rd (rd_L2 l0_1 x5_2) x4_1) 10) : Int).toNat ((wrap64 ((Int.tmod (rd (rd_L2 l0_1 x5_2) x4_1) 10) + 1)) : Int).toNat).size ≤ 9223372036854775807 then (spec_l9Text.l1 k2 (((x3_2 ++ (⟨#[32]⟩ : ByteArray)) ++ ((⟨#[48, 49, 50, 51, 52, 53, 54, 55, 56, 57]⟩ : ByteArray).extract ((ji14) : Int).toNat ((wrap64 ((ji14) + 1)) : Int).toNat)) ++ ((⟨#[48, 49, 50, 51, 52, 53, 54, 55, 56, 57]⟩ : ByteArray).extract ((Int.tmod (rd (rd_L2 l0_1 x5_2) x4_1) 10) : Int).toNat ((wrap64 ((Int.tmod (rd (rd_L2 l0_1 x5_2) x4_1) 10) + 1)) : Int).toNat)) x4_1 (wrap64 (x5_2 + 1)) a0_0 l0_1) else (none)) else (none)) else (none)) else (none)) else (none)) else (none)) else (none)) else (none)) = some r := by first | (rw [hji14] at H; exact H) | (simp only [hji14] at H ⊢; exact H)
   have hji14w : (IntKind.i64.wrap (Int.tdiv (rd (rd_L2 l0_1 x5_2) x4_1) 10)) = ji14 := (i64_w _).trans hji14
   by_cases c15 : 0 ≤ (ji14)
   rotate_left
   ·rw [if_neg c15] at H
    exact absurd H (by simp)
   rw [if_pos c15] at H
   have c15b0 := eq_true c15
   have c15b1 : decide (0 ≤ (ji14)) = true := decide_eq_true c15
   clear c15
   by_cases c16 : (ji14) ≤ (wrap64 ((ji14) + 1))
   rotate_left
   ·rw [if_neg c16] at H
    exact absurd H (by simp)
   rw [if_pos c16] at H
   have c16b0 := eq_true c16
   have c16b1 : decide ((ji14) ≤ (wrap64 ((ji14) + 1))) = true := decide_eq_true c16
   by_cases c17 : (wrap64 ((ji14) + 1)) ≤ 10
   rotate_left
   ·rw [if_neg c17] at H
    exact absurd H (by simp)
   rw [if_pos c17] at H
   have c17b0 := eq_true c17
   have c17b1 : decide ((wrap64 ((ji14) + 1)) ≤ 10) = true := decide_eq_true c17
   by_cases c18 : (x3_2 ++ (⟨#[32]⟩ : ByteArray)).size + ((⟨#[48, 49, 50, 51, 52, 53, 54, 55, 56, 57]⟩ : ByteArray).extract ((ji14) : Int).toNat ((wrap64 ((ji14) + 1)) : Int).toNat).size ≤ 9223372036854775807
   rotate_left
   ·rw [if_neg c18] at H
    exact absurd H (by simp)
   rw [if_pos c18] at H
   have c18b0 := eq_true c18
   have c18b1 : decide ((x3_2 ++ (⟨#[32]⟩ : ByteArray)).size + ((⟨#[48, 49, 50, 51, 52, 53, 54, 55, 56, 57]⟩ : ByteArray).extract ((ji14) : Int).toNat ((wrap64 ((ji14) + 1)) : Int).toNat).size ≤ 9223372036854775807) = true := decide_eq_true c18
   try have c18b2 : (9223372036854775807 < (x3_2 ++ (⟨#[32]⟩ : ByteArray)).size + ((⟨#[48, 49, 50, 51, 52, 53, 54, 55, 56, 57]⟩ : ByteArray).extract ((ji14) : Int).toNat ((wrap64 ((ji14) + 1)) : Int).toNat).size) = False := eq_false (Nat.not_lt.2 c18)
   try have c18b3 : (9223372036854775807 < x3_2.size + 1 + ((((wrap64 ((ji14) + 1)) : Int).toNat - ((ji14) : Int).toNat))) = False := eq_false (Nat.not_lt.2 (by have h_ := c18; simp only [ByteArray.size_append, ByteArray.size_extract] at h_; (try rw [show (⟨#[32]⟩ : ByteArray).size = 1 from rfl] at h_); (try rw [show (⟨#[48, 49, 50, 51, 52, 53, 54, 55, 56, 57]⟩ : ByteArray).size = 10 from rfl] at h_); omega))
   obtain ⟨ji19, hji19⟩ : ∃ j_ : Int, (Int.tmod (rd (rd_L2 l0_1 x5_2) x4_1) 10) = j_ := ⟨_, rfl⟩
   replace H : (if 0 ≤ (ji19) then (if (ji19) ≤ (wrap64 ((ji19) + 1)) then (if (wrap64 ((ji19) + 1)) ≤ 10 then (if ((x3_2 ++ (⟨#[32]⟩ : ByteArray)) ++ ((⟨#[48, 49, 50, 51, 52, 53, 54, 55, 56, 57]⟩ : ByteArray).extract ((ji14) : Int).toNat ((wrap64 ((ji14) + 1)) : Int).toNat)).size + ((⟨#[48, 49, 50, 51, 52, 53, 54, 55, 56, 57]⟩ : ByteArray).extract ((ji19) : Int).toNat ((wrap64 ((ji19) + 1)) : Int).toNat).size ≤ 9223372036854775807 then (spec_l9Text.l1 k2 (((x3_2 ++ (⟨#[32]⟩ : ByteArray)) ++ ((⟨#[48, 49, 50, 51, 52, 53, 54, 55, 56, 57]⟩ : ByteArray).extract ((ji14) : Int).toNat ((wrap64 ((ji14) + 1)) : Int).toNat)) ++ ((⟨#[48, 49, 50, 51, 52, 53, 54, 55, 56, 57]⟩ : ByteArray).extract ((ji19) : Int).toNat ((wrap64 ((ji19) + 1)) : Int).toNat)) x4_1 (wrap64 (x5_2 + 1)) a0_0 l0_1) else (none)) else (none)) else (none)) else (none)) = some r := by first | (rw [hji19] at H; exact H) | (simp only [hji19] at H ⊢; exact H)
   by_cases c20 : 0 ≤ (ji19)
   rotate_left
   ·rw [if_neg c20] at H
    exact absurd H (by simp)
   rw [if_pos c20] at H
   have c20b0 := eq_true c20
   have c20b1 : decide (0 ≤ (ji19)) = true := decide_eq_true c20
   clear c20
   by_cases c21 : (ji19) ≤ (wrap64 ((ji19) + 1))
   rotate_left
   ·rw [if_neg c21] at H
    exact absurd H (by simp)
   rw [if_pos c21] at H
   have c21b0 := eq_true c21
   have c21b1 : decide ((ji19) ≤ (wrap64 ((ji19) + 1))) = true := decide_eq_true c21
   by_cases c22 : (wrap64 ((ji19) + 1)) ≤ 10
   rotate_left
   ·rw [if_neg c22] at H
    exact absurd H (by simp)
   rw [if_pos c22] at H
   have c22b0 := eq_true c22
   have c22b1 : decide ((wrap64 ((ji19) + 1)) ≤ 10) = true := decide_eq_true c22
   by_cases c23 : ((x3_2 ++ (⟨#[32]⟩ : ByteArray)) ++ ((⟨#[48, 49, 50, 51, 52, 53, 54, 55, 56, 57]⟩ : ByteArray).extract ((ji14) : Int).toNat ((wrap64 ((ji14) + 1)) : Int).toNat)).size + ((⟨#[48, 49, 50, 51, 52, 53, 54, 55, 56, 57]⟩ : ByteArray).extract ((ji19) : Int).toNat ((wrap64 ((ji19) + 1)) : Int).toNat).size ≤ 9223372036854775807
   rotate_left
   ·rw [if_neg c23] at H
    exact absurd H (by simp)
   rw [if_pos c23] at H
   have c23b0 := eq_true c23
   have c23b1 : decide (((x3_2 ++ (⟨#[32]⟩ : ByteArray)) ++ ((⟨#[48, 49, 50, 51, 52, 53, 54, 55, 56, 57]⟩ : ByteArray).extract ((ji14) : Int).toNat ((wrap64 ((ji14) + 1)) : Int).toNat)).size + ((⟨#[48, 49, 50, 51, 52, 53, 54, 55, 56, 57]⟩ : ByteArray).extract ((ji19) : Int).toNat ((wrap64 ((ji19) + 1)) : Int).toNat).size ≤ 9223372036854775807) = true := decide_eq_true c23
   try have c23b2 : (9223372036854775807 < ((x3_2 ++ (⟨#[32]⟩ : ByteArray)) ++ ((⟨#[48, 49, 50, 51, 52, 53, 54, 55, 56, 57]⟩ : ByteArray).extract ((ji14) : Int).toNat ((wrap64 ((ji14) + 1)) : Int).toNat)).size + ((⟨#[48, 49, 50, 51, 52, 53, 54, 55, 56, 57]⟩ : ByteArray).extract ((ji19) : Int).toNat ((wrap64 ((ji19) + 1)) : Int).toNat).size) = False := eq_false (Nat.not_lt.2 c23)
   try have c23b3 : (9223372036854775807 < x3_2.size + 1 + (((wrap64 ((ji14) + 1)) : Int).toNat - ((ji14) : Int).toNat) + ((((wrap64 ((ji19) + 1)) : Int).toNat - ((ji19) : Int).toNat))) = False := eq_false (Nat.not_lt.2 (by have h_ := c23; simp only [ByteArray.size_append, ByteArray.size_extract] at h_; (try rw [show (⟨#[32]⟩ : ByteArray).size = 1 from rfl] at h_); (try rw [show (⟨#[48, 49, 50, 51, 52, 53, 54, 55, 56, 57]⟩ : ByteArray).size = 10 from rfl] at h_); omega))
   have H' := Aside0.mk H
   clear H
   have hcz24_0 : wr.cell? ⟨gb351, 0, none⟩ = some (.int .i64 a0_0) := (blk_cell BK351.out 0).trans rfl
   have hcz24_1 : wr.cell? ⟨gb351, 1, none⟩ = some (.slice A0_1 l0_1.length c0_1) := (blk_cell BK351.out 1).trans rfl
   have hfz24_0 := blk_frozen BK351.out 0
   have hfz24_1 := blk_frozen BK351.out 1
   have p352 : 0 ≤ (x5_2 : Int) := oda
   have q352 : x5_2 < (l0_1.length : Int) := oda
   obtain ⟨ad352, A352_0, c352_0, e352, hx352_0, hl352_0, hi352_0⟩ := at_L2 HR0_1.out x5_2 p352 q352
   cases e352
   replace hx352_0 := cel HB hx352_0
   have HR352_0 := Aside0.mk hi352_0
   have HC352_0 := Aside0.mk hl352_0
   clear hi352_0 hl352_0
   replace p352 := eq_true p352
   replace q352 := eq_true q352
   have p353 : 0 ≤ (x5_2 : Int) := oda
   have q353 : x5_2 < (l0_1.length : Int) := oda
   obtain ⟨ad353, A353_0, c353_0, e353, hx353_0, hl353_0, hi353_0⟩ := at_L2 HR0_1.out x5_2 p353 q353
   obtain rfl : ad352 = ad353 := (by injection e353)
   replace hx353_0 := cel HB hx353_0
   have HR353_0 := Aside0.mk hi353_0
   have HC353_0 := Aside0.mk hl353_0
   clear hi353_0 hl353_0
   replace p353 := eq_true p353
   replace q353 := eq_true q353
   have ea_ := Option.some.inj (hx352_0.symm.trans hx353_0)
   injection ea_ with ea_ en_ ec_
   subst ea_
   subst ec_
   clear en_
   have p354 : 0 ≤ (x4_1 : Int) := oda
   have q354 : x4_1 < ((rd_L2 l0_1 x5_2).length : Int) := oda
   obtain ⟨ad354, e354, hx354_0⟩ := Kd.at_int HR353_0.out x4_1 p354 q354
   cases e354
   replace hx354_0 := cel HB hx354_0
   replace p354 := eq_true p354
   replace q354 := eq_true q354
   go_wp2
   repeat (go_quiet (fail); try go_wp2)
   go_roundg k2
   case measure => have := HK1.out; have := HK2.out; omega
   case rel => exact ⟨(((x3_2 ++ (⟨#[32]⟩ : ByteArray)) ++ ((⟨#[48, 49, 50, 51, 52, 53, 54, 55, 56, 57]⟩ : ByteArray).extract ((ji14) : Int).toNat ((wrap64 ((ji14) + 1)) : Int).toNat)) ++ ((⟨#[48, 49, 50, 51, 52, 53, 54, 55, 56, 57]⟩ : ByteArray).extract ((ji19) : Int).toNat ((wrap64 ((ji19) + 1)) : Int).toNat)), (wrap64 (x5_2 + 1)), (by first | rfl | (simp; done) | (simp only [← hji14, ← hji19] <;> (first | rfl | simp)) | (simp [*]; done)), (by first | rfl | (simp; done) | (simp [*]; done)), H', ⟨by have := HK1.out; have := HK2.out; omega⟩, ⟨bkl BK351⟩, ⟨bel1 HB GE351⟩⟩
/-! ### spec_l1Cur_one: function 35 -/
def spec_l1Cur_one.f (s0_0 : List Int) (s0_1 : Int) (s0_2 : Int) (a1 : Int) : Option (Bool × Int × Int) := (spec_l1Cur_pick.f s0_0 s0_1 s0_2 a1).bind fun bt358 => (some ((bt358.1 == 0), bt358.2.1, bt358.2.2))
set_option maxHeartbeats 8000000 in
set_option maxRecDepth 100000 in
theorem spec_l1Cur_one.calls (g : Nat) (s0_0 : List Int) (s0_1 : Int) (s0_2 : Int) (a1 : Int) (r1 : Bool) (r2 : Int) (r3 : Int) (w0 w : World) (hI : IsS44 w0 w g s0_0 s0_1 s0_2) (hB : Below w0.heap.size w0 w) (h : spec_l1Cur_one.f s0_0 s0_1 s0_2 a1 = some (r1, r2, r3)) :
  Calls Tryz.prog 35 #[.pointer (some ⟨g, 0, none⟩), .int .i64 a1] w fun e w' => e = .returned (.bool r1) ∧ IsS44 w0 w' g s0_0 r2 r3 ∧ Below w0.heap.size w0 w' ∧ KeepBut w w' g none := by
 have HI0 := Aside0.mk hI
 have HK := Aside0.mk (KeepBut.refl w g none)
 have HL := Aside0.mk hB.size
 clear hI
 have HW0 := Aside0.mk hB.size
 have HB := Aside0.mk hB
 clear hB
 have H : ((spec_l1Cur_pick.f s0_0 s0_1 s0_2 a1).bind fun bt358 => (some ((bt358.1 == 0), bt358.2.1, bt358.2.2))) = some (r1, r2, r3) := h
 clear h
 replace H := Option.bind_eq_some_iff.mp H
 obtain ⟨⟨t358, t359, t360⟩, A30, H⟩ := H
 replace H : (some ((t358 == 0), t359, t360)) = some (r1, r2, r3) := H
 have A3 := Aside0.mk A30
 clear A30
 simp only [Option.some.injEq, Prod.mk.injEq] at H
 obtain ⟨rfl, rfl, rfl⟩ := H
 go_enter Tryz.func35, Tryz.ntmps35
 go_wp2_with (first | ((with_reducible refine gate_callee (f := 17) rfl ?_); refine goesL_ (some 7) rfl rfl Tryz.func17 (by kernel_rfl) rfl #[.pointer (some ⟨g, 0, none⟩), .int .i64 a1] rfl gmp ?_; (with_reducible refine (spec_l1Cur_pick.calls g s0_0 s0_1 s0_2 a1 t358 t359 t360 w0 _ ?side1 ?side2 A3.out).mono ?_); (case side1 => repeat (first | (with_reducible first | exact HI0.out | apply IsS44.alloc | apply IsS44.drewN | apply IsS44.drew | apply IsS44.set_1 | apply IsS44.set_2) | exact HI0.out)); (case side2 => repeat (first | (with_reducible first | exact HB.out | apply below_alloc | apply pw_below_drewN | apply below_drew1 | refine below_set ?_ (IsS44.ge HI0.out)) | exact HB.out)); rintro e w4 ⟨rfl, hi, hb, hk⟩; refine ⟨_, rfl, ?_⟩; have n0_ := Aside0.mk (KeepBut.trans (by repeat (first | (with_reducible first | exact HK.out | apply KeepBut.set_ | apply keep_drewN | apply keep_drew | apply keep_alloc) | exact HK.out)) hk (.inl rfl)); have n1_ := Aside0.mk (hb); have n2_ := Aside0.mk (hi); clear HK; clear HB; clear HI0; have HK := n0_; have HB := n1_; have HI0 := n2_; clear n0_ n1_ n2_; (try clear hb); (try clear hb2); (try clear hk); (try clear hi)))
 go_ret
 exact ⟨by first | rfl | (simp [errW_none, errW_some] <;> rfl) | (simp [*, errW_none, errW_some] <;> rfl), by repeat (first | (with_reducible first | exact HI0.out | apply IsS44.alloc | apply IsS44.drewN | apply IsS44.drew | apply IsS44.set_1 | apply IsS44.set_2) | exact HI0.out), by repeat (first | (with_reducible first | exact HB.out | apply below_alloc | apply pw_below_drewN | apply below_drew1 | refine below_set ?_ (IsS44.ge HI0.out)) | exact HB.out), by repeat (first | (with_reducible first | exact HK.out | apply KeepBut.set_ | apply keep_drewN | apply keep_drew | apply keep_alloc) | exact HK.out)⟩
end Go.Proofs.YtnknojpijmfefaaGreatDoor.P
