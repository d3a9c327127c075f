-- Written by a program of this session over the translation (a variant of the printer, see wip/gen); Lean checks it.
import Derived.Test.YtipahijdcgoemaaPx0
import Derived.Test.YtipahijdcgoemaaPx2
import Derived.Test.YtipahijdcgoemaaPx3
import Derived.Test.YtipahijdcgoemaaPx7
import Derived.Test.YtipahijdcgoemaaU
namespace Go.Proofs.Ytipahijdcgoemaa.P
open Go.RowKit Go.Proofs.YtipahijdcgoemaaW.PrintWords Go.Proofs.YtipahijdcgoemaaW.PrintLast Go.Proofs.YtipahijdcgoemaaW.PrintMore
attribute [local go_sem] Go.Proofs.Ytipahijdcgoemaa.V.isSome_setCell max2_int min2_int max_two min_two max_three min_three max_four min_four
set_option linter.unusedVariables false
set_option linter.unusedSimpArgs false
/-! ### impl_shiftedBoxes: function 33 -/
/-- Whether an earlier number of a row has an earlier port. -/
def shB (ports row : List Int) (j : Nat) : Bool := (row.take j).any fun m => decide (ports.getD (m - 1).toNat 0 < ports.getD (row.getD j 0 - 1).toNat 0)
def shR (ports row : List Int) : Nat → Nat → List Int
  | 0, _ => []
  | d + 1, j => (if shB ports row j = true then [row.getD j 0] else []) ++ shR ports row d (j + 1)
def shA (ports : List Int) : List (List Int) → List Int
  | [] => []
  | r :: l => shR ports r r.length 0 ++ shA ports l
def shOk (ports : List Int) (rows : List (List Int)) : Bool := decide (rows.flatten.length < 1048576) && rows.all fun r => r.all fun m => decide (1 ≤ m) && decide (m ≤ (ports.length : Int))
def impl_shiftedBoxes.f (a0_0 : Int) (a0_1 : Int) (l0_2 : List Int) (a1_0 : Int) (l1_1 : List (List Int)) : Option (List Int) := if shOk l0_2 l1_1 = true then some ((shA l0_2 l1_1).mergeSort fun x y => decide (x ≤ y)) else none
theorem shR_len (ports row : List Int) : ∀ d j, (shR ports row d j).length ≤ d
  | 0, _ => Nat.le_refl _
  | d + 1, j => by
    unfold shR
    have := shR_len ports row d (j + 1)
    rw [List.length_append]
    split
    · rw [List.length_singleton]; omega
    · rw [List.length_nil]; omega
theorem shA_len (ports : List Int) : ∀ (l : List (List Int)), (shA ports l).length ≤ l.flatten.length
  | [] => Nat.le_refl _
  | r :: l => by
    unfold shA
    have h1 := shR_len ports r r.length 0
    have h2 := shA_len ports l
    rw [List.length_append, List.flatten_cons, List.length_append]; omega
theorem impl_shiftedBoxes.atRow {w : World} {A : Option Addr} {n : Nat} {xs : List (List Int)} (h : Kd.C (Kd.slice 3 (Kd.int .i64)) w A n xs) (i : Nat) (h1 : i < n) : ∃ ad A0 c0, A = some ad ∧ w.cell? (ad.add i) = some (.slice A0 (xs.getD i []).length c0) ∧ (xs.getD i []).length ≤ c0 ∧ Kd.C (Kd.int .i64) w A0 (xs.getD i []).length (xs.getD i []) := by
 obtain ⟨ad, c, e, _, hK, hc0⟩ := Kd.C_get h ([] : List Int) (i : Int) (by omega) (by omega)
 have hc : ∀ j u, c[j]? = some u → w.cell? (ad.add ((i : Int).toNat * 1 + j)) = some u := hc0
 obtain ⟨A0, c0, rfl, l0, g0⟩ := hK
 have hq := hc 0 _ rfl
 rw [Nat.mul_one, Nat.add_zero, Int.toNat_natCast] at hq
 exact ⟨ad, A0, c0, e, hq, l0, g0⟩
set_option maxHeartbeats 8000000 in
set_option maxRecDepth 100000 in
theorem impl_shiftedBoxes.each (A2 : Option Addr) (c2 : Nat) (l2 : List Int) (gs gn : Nat) (x n : Int) (W : World) (hs : W.cell? ⟨gs, 2, none⟩ = some (.slice A2 l2.length c2)) (hn : W.cell? ⟨gn, 0, none⟩ = some (.int .i64 n)) (hC : Kd.C (Kd.int .i64) W A2 l2.length l2) (hx : 1 ≤ x ∧ x ≤ (l2.length : Int)) (hn1 : 1 ≤ n ∧ n ≤ (l2.length : Int)) :
    Calls Try.prog 58 #[.int .i64 x, .pointer (some ⟨gs, 0, none⟩), .pointer (some ⟨gn, 0, none⟩)] W fun e W' => e = .returned (.bool (decide (l2.getD (x - 1).toNat 0 < l2.getD (n - 1).toNat 0))) ∧ Drawn0 W W' := by
 have hu := Try.underlying26
 have hln : l2.length ≤ 9223372036854775807 := hC.2.1
 obtain ⟨i, rfl⟩ : ∃ i : Nat, x = (i : Int) + 1 := ⟨(x - 1).toNat, by omega⟩
 obtain ⟨j, rfl⟩ : ∃ j : Nat, n = (j : Int) + 1 := ⟨(n - 1).toNat, by omega⟩
 have hi : i < l2.length := by omega
 have hj : j < l2.length := by omega
 have hwi : wrap64 ((i : Int) + 1 - 1) = (i : Int) := by rw [Go.Proofs.Ytipahijdcgoemaa.U.wr (by omega) (by omega)]; omega
 have hwj : wrap64 ((j : Int) + 1 - 1) = (j : Int) := by rw [Go.Proofs.Ytipahijdcgoemaa.U.wr (by omega) (by omega)]; omega
 obtain ⟨ad, rfl, hci⟩ := indexFunc.atInt hC i hi
 obtain ⟨ad2, e2, hcj⟩ := indexFunc.atInt hC j hj
 cases e2
 have e1 : ((i : Int) + 1 - 1).toNat = i := by omega
 have e2 : ((j : Int) + 1 - 1).toNat = j := by omega
 rw [e1, e2]
 have hib : decide (i < l2.length) = true := decide_eq_true hi
 have hjb : decide (j < l2.length) = true := decide_eq_true hj
 have Hx := Aside0.mk hx
 have Hn := Aside0.mk hn1
 have HC := Aside0.mk hC
 clear hx hn1 hC e1 e2
 generalize l2.getD i 0 = a at *
 generalize l2.getD j 0 = b at *
 go_enter Try.func58, Try.ntmps58
 have hi2 : (i : Int) < (l2.length : Int) := by omega
 have hj2 : (j : Int) < (l2.length : Int) := by omega
 go_wp2
 go_quiet (fail)
 go_wp2
 go_ret
 exact ⟨rfl, (Drawn0.refl _).step _⟩
set_option maxHeartbeats 8000000 in
set_option maxRecDepth 100000 in
theorem impl_shiftedBoxes.calls (a0_0 : Int) (a0_1 : Int) (A0_2 : Option Addr) (c0_2 : Nat) (l0_2 : List Int) (a1_0 : Int) (A1_1 : Option Addr) (c1_1 : Nat) (l1_1 : List (List Int)) (r : List Int) (w : World) (hr0_2 : Kd.C (Kd.int .i64) w A0_2 l0_2.length l0_2) (hc0_2 : l0_2.length ≤ c0_2) (hr1_1 : Kd.C (Kd.slice 3 (Kd.int .i64)) w A1_1 l1_1.length l1_1) (hc1_1 : l1_1.length ≤ c1_1) (h : impl_shiftedBoxes.f a0_0 a0_1 l0_2 a1_0 l1_1 = some r) :
    Calls Try.prog 33 #[.agg #[.int .i64 a0_0, .int .i64 a0_1, .slice A0_2 l0_2.length c0_2], .agg #[.int .i64 a1_0, .slice A1_1 l1_1.length c1_1]] w fun e w' => ∃ v0_ : Value, e = .returned (v0_) ∧ Kd.R (Kd.int .i64) 3 w' w.heap.size (fun _ => True) v0_ r ∧ Below w.heap.size w w' := by
 have hu := Try.underlying26
 have hu2 := Try.underlying45
 unfold impl_shiftedBoxes.f at h
 cases hok : shOk l0_2 l1_1
 ·rw [hok, if_neg (by simp)] at h; cases h
 rw [hok, if_pos rfl] at h
 have h := Option.some.inj h
 unfold shOk at hok
 rw [Bool.and_eq_true, decide_eq_true_eq] at hok
 have HT := Aside0.mk (show (shA l0_2 l1_1).length < 1048576 by have := shA_len l0_2 l1_1; omega)
 have HNum := Aside0.mk (show ∀ x, x ∈ l1_1 → ∀ m, m ∈ x → 1 ≤ m ∧ m ≤ (l0_2.length : Int) from fun x hx m hm => by
   have h1 := List.all_eq_true.mp (List.all_eq_true.mp hok.2 x hx) m hm
   rw [Bool.and_eq_true, decide_eq_true_eq, decide_eq_true_eq] at h1
   exact h1)
 generalize htot : shA l0_2 l1_1 = tot at *
 have HTot := Aside0.mk htot
 have HRes := Aside0.mk h
 clear htot h hok
 have hln : l1_1.length ≤ 9223372036854775807 := hr1_1.2.1
 have HB := Aside0.mk (Below.refl w.heap.size w)
 have HR0 := Aside0.mk hr0_2
 have HR1 := Aside0.mk hr1_1
 clear hr0_2 hr1_1
 have hgs : ((w.alloc (.cells #[.int .i64 a0_0, .int .i64 a0_1, .slice A0_2 l0_2.length c0_2] 26)).alloc (.cells #[.int .i64 a1_0, .slice A1_1 l1_1.length c1_1] 45)).heap[w.heap.size]? = some (.cells #[.int .i64 a0_0, .int .i64 a0_1, .slice A0_2 l0_2.length c0_2] 26 (0, 0)) := blk_alloc (blk_new w _) _
 have hgb : ((w.alloc (.cells #[.int .i64 a0_0, .int .i64 a0_1, .slice A0_2 l0_2.length c0_2] 26)).alloc (.cells #[.int .i64 a1_0, .slice A1_1 l1_1.length c1_1] 45)).heap[w.heap.size + 1]? = some (.cells #[.int .i64 a1_0, .slice A1_1 l1_1.length c1_1] 45 (0, 0)) := by
   have h1 := blk_new (w.alloc (.cells #[.int .i64 a0_0, .int .i64 a0_1, .slice A0_2 l0_2.length c0_2] 26)) (.cells #[.int .i64 a1_0, .slice A1_1 l1_1.length c1_1] 45 (0, 0))
   rw [show (w.alloc (.cells #[.int .i64 a0_0, .int .i64 a0_1, .slice A0_2 l0_2.length c0_2] 26)).heap.size = w.heap.size + 1 by simp] at h1
   exact h1
 have BS := Aside0.mk hgs
 have BB := Aside0.mk hgb
 clear hgs hgb
 go_enter Try.func33, Try.ntmps33
 go_wp2_with (first | ((with_reducible refine gate_dst (N := 10) rfl ?_); refine Kd.R_lit (Kd.int .i64) _ 3 ?hg (N := 10) ?hd (xs := ([] : List Int)) (inner := []) (ok := fun _ => True) (okp := fun _ => True) ?hr ?hp (fun _ hk => hk) trivial (Below.refl _ _) (Nat.le_refl _) (by simp) ?_; (case hd => rfl); (case hg => rfl); (case hr => first | (go_simp; done) | (go_simp; rfl)); (case hp => exact (Reps.none _ _)); intro v5 w3 ho hb hg_ hnew_; clear hg_ hnew_; (try simp only [Int.reduceToNat] at ho); have n0_ := Aside0.mk (Kd.R_lower ho (below_size (bel HB))); have n1_ := Aside0.mk (blk_below BS.out hb); have n2_ := Aside0.mk (blk_below BB.out hb); have n3_ := Aside0.mk (below_step (bel HB) hb); clear HB BS BB; have HO := n0_; have BS := n1_; have BB := n2_; have HB := n3_; clear n0_ n1_ n2_ n3_ ho hb; have hcb : w3.cell? ⟨w.heap.size + 1, 1, none⟩ = some (.slice A1_1 l1_1.length c1_1) := (blk_cell BB.out 1).trans rfl))
 try clear hcb
 try clear BB
 go_loopw [5, 14] (fun v5 v14 wr => ∃ (i : Nat) (xs : List Int), v14 = .int .i64 (i : Int) ∧ Aside0 (i ≤ l1_1.length) ∧ Aside0 (xs ++ shA l0_2 (l1_1.drop i) = tot) ∧ Aside0 (Kd.R (Kd.int .i64) 3 wr w.heap.size (fun _ => True) v5 xs) ∧ Aside0 (wr.heap[w.heap.size]? = some (.cells #[.int .i64 a0_0, .int .i64 a0_1, .slice A0_2 l0_2.length c0_2] 26 (0, 0))) ∧ Aside0 (Below w.heap.size w wr))
   (fun v5 v14 wr => l1_1.length - (intOf v14).toNat)
 case atStart => exact ⟨0, [], rfl, ⟨Nat.zero_le _⟩, ⟨by rw [List.drop_zero, List.nil_append]; exact HTot.out⟩, HO, BS, HB⟩
 clear HO BS HB
 obtain ⟨i, xs, rfl, HLe, HX, HO, BS, HB⟩ := hrel
 by_cases hlt : i < l1_1.length
 rotate_left
 ·have hltb : decide (i < l1_1.length) = false := decide_eq_false hlt
  have HX2 := Aside0.mk (show xs = tot by
    have h1 := HX.out
    rw [List.drop_of_length_le (by omega)] at h1
    rw [← h1]; exact (List.append_nil xs).symm)
  clear HX
  obtain rfl := HX2.out
  go_wp2_with (first | (go_at_call 28; refine (slices_Sort_int_int.calls (fun _ => True) _ xs r w _ (bel HB) (rdl HO) (by unfold slices_Sort_int_int.f; have := HT.out; rw [if_pos (by omega), HRes.out])).mono ?_; rintro e w' ⟨rfl, hR, hb, hk⟩; have HR := Aside0.mk hR; have HB2 := Aside0.mk hb; clear hR hb hk))
  go_ret
  exact ⟨_, rfl, Kd.R_mono (rdl HR) (fun _ _ => trivial), bel HB2⟩
 have hltb : decide (i < l1_1.length) = true := decide_eq_true hlt
 obtain ⟨ad, A0, c0, eA, hcell, hcr, hCr⟩ := impl_shiftedBoxes.atRow HR1.out i hlt
 cases eA
 replace hcell := (HB.out.cell (World.block_lt_of_cell? w _ hcell)).trans hcell
 have HM := Aside0.mk (show ∀ m, m ∈ l1_1.getD i [] → 1 ≤ m ∧ m ≤ (l0_2.length : Int) from HNum.out _ (by rw [Go.Proofs.Ytipahijdcgoemaa.U.getD_at _ _ _ hlt]; exact List.getElem_mem hlt))
 have hdrop : shA l0_2 (l1_1.drop i) = shR l0_2 (l1_1.getD i []) (l1_1.getD i []).length 0 ++ shA l0_2 (l1_1.drop (i + 1)) := by rw [List.drop_eq_getElem_cons hlt, Go.Proofs.Ytipahijdcgoemaa.U.getD_at _ _ _ hlt]; rfl
 have HX2 := Aside0.mk (show xs ++ (shR l0_2 (l1_1.getD i []) (l1_1.getD i []).length 0 ++ shA l0_2 (l1_1.drop (i + 1))) = tot by rw [← hdrop]; exact HX.out)
 clear hdrop HX
 generalize l1_1.getD i [] = row at *
 have HCr := Aside0.mk hCr
 have hrn : row.length ≤ 9223372036854775807 := hCr.2.1
 have Hcr := Aside0.mk hcr
 clear hCr hcr
 go_wp2
 obtain ⟨wo, rfl⟩ : ∃ wo : World, wo = wr := ⟨_, rfl⟩
 go_loopw [5, 20] (fun v5 v20 wr => ∃ (j : Nat) (xs : List Int), v20 = .int .i64 (j : Int) ∧ Aside0 (j ≤ row.length) ∧ Aside0 (xs ++ (shR l0_2 row (row.length - j) j ++ shA l0_2 (l1_1.drop (i + 1))) = tot) ∧ Aside0 (Kd.R (Kd.int .i64) 3 wr w.heap.size (fun _ => True) v5 xs) ∧ Aside0 (wr.heap[w.heap.size]? = some (.cells #[.int .i64 a0_0, .int .i64 a0_1, .slice A0_2 l0_2.length c0_2] 26 (0, 0))) ∧ Aside0 (Below w.heap.size w wr))
   (fun v5 v20 wr => row.length - (intOf v20).toNat)
 case atStart => exact ⟨0, xs, rfl, ⟨Nat.zero_le _⟩, HX2, HO, BS, HB⟩
 clear HX2 HO BS HB hcell
 obtain ⟨j, xs, rfl, HLe2, HX, HO, BS, HB⟩ := hrel
 by_cases hlt2 : j < row.length
 rotate_left
 ·have hlt2b : decide (j < row.length) = false := decide_eq_false hlt2
  have HX2 := Aside0.mk (show xs ++ shA l0_2 (l1_1.drop (i + 1)) = tot by
    have h1 := HX.out
    rw [show row.length - j = 0 by omega] at h1
    exact h1)
  clear HX
  go_wp2
  go_roundw
  case rel => exact ⟨i + 1, xs, by go_num, ⟨hlt⟩, HX2, HO, BS, HB⟩
  case measure => simp [intOf]; omega
 have hlt2b : decide (j < row.length) = true := decide_eq_true hlt2
 obtain ⟨ad2, eA2, hcell2⟩ := indexFunc.atInt HCr.out j hlt2
 cases eA2
 replace hcell2 := (HB.out.cell (World.block_lt_of_cell? w _ hcell2)).trans hcell2
 have HN1 := Aside0.mk (HM.out (row.getD j 0) (by rw [Go.Proofs.Ytipahijdcgoemaa.U.getD_at _ _ _ hlt2]; exact List.getElem_mem hlt2))
 have hdrop2 : shR l0_2 row (row.length - j) j = (if shB l0_2 row j = true then [row.getD j 0] else []) ++ shR l0_2 row (row.length - (j + 1)) (j + 1) := by
   rw [show row.length - j = (row.length - (j + 1)) + 1 by omega]; rfl
 have HX2 := Aside0.mk (show xs ++ (((if shB l0_2 row j = true then [row.getD j 0] else []) ++ shR l0_2 row (row.length - (j + 1)) (j + 1)) ++ shA l0_2 (l1_1.drop (i + 1))) = tot by rw [← hdrop2]; exact HX.out)
 clear hdrop2 HX
 have HSh := Aside0.mk (show (row.take j).any (fun m => decide (l0_2.getD (m - 1).toNat 0 < l0_2.getD (row.getD j 0 - 1).toNat 0)) = shB l0_2 row j from rfl)
 have HTk := Aside0.mk (show Kd.C (Kd.int .i64) w (some ad2) (row.take j).length (row.take j) by
   exact Kd.C_take HCr.out (m := j) (by omega))
 have hmem : ∀ m, m ∈ row.take j → 1 ≤ m ∧ m ≤ (l0_2.length : Int) := fun m hm => HM.out m (List.mem_of_mem_take hm)
 have HMem := Aside0.mk hmem
 clear hmem
 generalize hn : row.getD j 0 = n at *
 clear hn
 have hjc : j ≤ c0 := by have := Hcr.out; omega
 cases hsh : shB l0_2 row j
 ·have HAny := Aside0.mk (HSh.out.trans hsh)
  have HX3 := Aside0.mk (show xs ++ (shR l0_2 row (row.length - (j + 1)) (j + 1) ++ shA l0_2 (l1_1.drop (i + 1))) = tot by
    have h1 := HX2.out
    rw [hsh, if_neg (by simp), List.nil_append] at h1
    exact h1)
  clear HX2 hsh HSh
  go_wp2_with (first | ((with_reducible refine gate_dst (N := 9) rfl ?_); (try (refine gate_guard (by rfl) ?_; dsimp only)); refine box_event ?hg (N := 9) ?hd (cs := #[.int .i64 0]) (t := 3) ?hr ?_; (case hd => rfl); (case hg => rfl); (case hr => first | (go_simp; done) | (go_simp; rfl)); intro gb hg w5 hbox hb; have n0_ := Aside0.mk (Kd.R_mono (Kd.R_below (Kd.R_bound (rdl HO)) hb) (fun k hk => (by rw [hg]; exact Nat.ne_of_lt hk.2.2.1 : k ≠ gb))); have n1_ := Aside0.mk (blk_below (g := w.heap.size) (o := .cells #[.int .i64 a0_0, .int .i64 a0_1, .slice A0_2 l0_2.length c0_2] 26 (0, 0)) (bkl BS) hb); have n2_ := Aside0.mk (below_step (bel HB) hb); have n3_ := Aside0.mk hbox; have n4_ := Aside0.mk ((by rw [hg]; exact (below_size (bel HB)) : w.heap.size ≤ gb)); have n5_ := Aside0.mk ((by rw [hg]; exact Nat.ne_of_lt (blk_lt (g := w.heap.size) (o := .cells #[.int .i64 a0_0, .int .i64 a0_1, .slice A0_2 l0_2.length c0_2] 26 (0, 0)) (bkl BS)) : w.heap.size ≠ gb)); clear HO BS HB; have HO := n0_; have BS := n1_; have HB := n2_; have BK := n3_; have GE := n4_; have NE := n5_; clear n0_ n1_ n2_ n3_ n4_ n5_ hb hbox hg; have hcz : w5.cell? ⟨gb, 0, none⟩ = some (.int .i64 0) := (blk_cell BK.out 0).trans rfl; have hfz := blk_frozen BK.out 0; have HCs := Aside0.mk (show (w5.setCell ⟨gb, 0, none⟩ (.int .i64 n)).cell? ⟨w.heap.size, 2, none⟩ = some (.slice A0_2 l0_2.length c0_2) from (World.cell?_setCell_other w5 _ _ _ (by intro h_; injection h_ with h_; exact NE.out h_.symm)).trans ((blk_cell BS.out 2).trans rfl)); have HCn := Aside0.mk (show (w5.setCell ⟨gb, 0, none⟩ (.int .i64 n)).cell? ⟨gb, 0, none⟩ = some (.int .i64 n) from World.cell?_setCell_same w5 _ _ hcz)) | (go_at_call 43; refine (Go.Proofs.Ytipahijdcgoemaa.V.calls_len (n := j) (m := (row.take j).length) (by rw [List.length_take]; omega) (containsFuncM 58 #[.pointer (some ⟨w.heap.size, 0, none⟩), .pointer (some ⟨gb, 0, none⟩)] (fun m => decide (l0_2.getD (m - 1).toNat 0 < l0_2.getD (n - 1).toNat 0)) (some ad2) c0 (row.take j) _ (Kd.C_below HTk.out (bel1 HB GE)) (fun args W => enters_ Try.func58 (by kernel_rfl) rfl args W) (fun x hx W hd => impl_shiftedBoxes.each A0_2 c0_2 l0_2 w.heap.size gb x n W ((hd.below.cell (World.block_lt_of_cell? _ _ HCs.out)).trans HCs.out) ((hd.below.cell (World.block_lt_of_cell? _ _ HCn.out)).trans HCn.out) (Kd.C_below (Kd.C_below HR0.out (bel1 HB GE)) hd.below) (HMem.out x hx) HN1.out))).mono ?_; rw [HAny.out]; rintro e w' ⟨rfl, ⟨nd, rfl⟩⟩))
  go_roundw
  case rel => exact ⟨j + 1, xs, by go_num, ⟨hlt2⟩, HX3, ⟨(by (with_reducible repeat (first | apply Kd.R_alloc | apply Kd.R_drewN | apply Kd.R_drew)); exact Kd.R_mono (Kd.R_far (p := ⟨gb, 0, none⟩) HO.out (fun _ hk => hk) (.int .i64 n)) (fun _ _ => trivial))⟩, ⟨(by (with_reducible repeat (first | refine blk_drewN ?_ _ | refine blk_drew ?_ | refine blk_alloc ?_ _)); refine blk_far ?_ NE.out _; exact BS.out)⟩, ⟨bel1 HB GE⟩⟩
  case measure => simp [intOf]; omega
 have HAny := Aside0.mk (HSh.out.trans hsh)
 have HX3 := Aside0.mk (show (xs ++ [n]) ++ (shR l0_2 row (row.length - (j + 1)) (j + 1) ++ shA l0_2 (l1_1.drop (i + 1))) = tot by
   have h1 := HX2.out
   rw [hsh, if_pos rfl] at h1
   rw [List.append_assoc, ← h1, List.append_assoc])
 have HLn := Aside0.mk (show xs.length + 1 < 1048576 by
   have h1 := congrArg List.length HX3.out
   have h2 := HT.out
   rw [List.length_append, List.length_append, List.length_singleton] at h1
   omega)
 clear HX2 hsh HSh
 go_wp2_with (first | ((with_reducible refine gate_dst (N := 9) rfl ?_); (try (refine gate_guard (by rfl) ?_; dsimp only)); refine box_event ?hg (N := 9) ?hd (cs := #[.int .i64 0]) (t := 3) ?hr ?_; (case hd => rfl); (case hg => rfl); (case hr => first | (go_simp; done) | (go_simp; rfl)); intro gb hg w5 hbox hb; have n0_ := Aside0.mk (Kd.R_mono (Kd.R_below (Kd.R_bound (rdl HO)) hb) (fun k hk => (by rw [hg]; exact Nat.ne_of_lt hk.2.2.1 : k ≠ gb))); have n1_ := Aside0.mk (blk_below (g := w.heap.size) (o := .cells #[.int .i64 a0_0, .int .i64 a0_1, .slice A0_2 l0_2.length c0_2] 26 (0, 0)) (bkl BS) hb); have n2_ := Aside0.mk (below_step (bel HB) hb); have n3_ := Aside0.mk hbox; have n4_ := Aside0.mk ((by rw [hg]; exact (below_size (bel HB)) : w.heap.size ≤ gb)); have n5_ := Aside0.mk ((by rw [hg]; exact Nat.ne_of_lt (blk_lt (g := w.heap.size) (o := .cells #[.int .i64 a0_0, .int .i64 a0_1, .slice A0_2 l0_2.length c0_2] 26 (0, 0)) (bkl BS)) : w.heap.size ≠ gb)); clear HO BS HB; have HO := n0_; have BS := n1_; have HB := n2_; have BK := n3_; have GE := n4_; have NE := n5_; clear n0_ n1_ n2_ n3_ n4_ n5_ hb hbox hg; have hcz : w5.cell? ⟨gb, 0, none⟩ = some (.int .i64 0) := (blk_cell BK.out 0).trans rfl; have hfz := blk_frozen BK.out 0; have HCs := Aside0.mk (show (w5.setCell ⟨gb, 0, none⟩ (.int .i64 n)).cell? ⟨w.heap.size, 2, none⟩ = some (.slice A0_2 l0_2.length c0_2) from (World.cell?_setCell_other w5 _ _ _ (by intro h_; injection h_ with h_; exact NE.out h_.symm)).trans ((blk_cell BS.out 2).trans rfl)); have HCn := Aside0.mk (show (w5.setCell ⟨gb, 0, none⟩ (.int .i64 n)).cell? ⟨gb, 0, none⟩ = some (.int .i64 n) from World.cell?_setCell_same w5 _ _ hcz)) | (go_at_call 43; refine (Go.Proofs.Ytipahijdcgoemaa.V.calls_len (n := j) (m := (row.take j).length) (by rw [List.length_take]; omega) (containsFuncM 58 #[.pointer (some ⟨w.heap.size, 0, none⟩), .pointer (some ⟨gb, 0, none⟩)] (fun m => decide (l0_2.getD (m - 1).toNat 0 < l0_2.getD (n - 1).toNat 0)) (some ad2) c0 (row.take j) _ (Kd.C_below HTk.out (bel1 HB GE)) (fun args W => enters_ Try.func58 (by kernel_rfl) rfl args W) (fun x hx W hd => impl_shiftedBoxes.each A0_2 c0_2 l0_2 w.heap.size gb x n W ((hd.below.cell (World.block_lt_of_cell? _ _ HCs.out)).trans HCs.out) ((hd.below.cell (World.block_lt_of_cell? _ _ HCn.out)).trans HCn.out) (Kd.C_below (Kd.C_below HR0.out (bel1 HB GE)) hd.below) (HMem.out x hx) HN1.out))).mono ?_; rw [HAny.out]; rintro e w' ⟨rfl, ⟨nd, rfl⟩⟩) | ((with_reducible refine gate_builtin (b := .append) (xs := #[.tmp 30, .tmp 32]) rfl ?_); at_builtin; refine Kd.R_append (Kd.int .i64) (w0 := w) w.heap.size rfl (.tmp 30) (.tmp 32) 24 3 (.int .i64 0) 8 rfl Try.underlying24 info3 rfl (by decide) (by omega) u5 xs n [.int .i64 n] (fun _ => True) (fun _ => False) rfl (by show Value.slice (some ⟨w5.heap.size, 0, none⟩) 1 1 = _; simp) ?aP (fun _ hk => hk.elim) ?aF ?aO ?aB ?aS ?aL ?_; (case aP => exact rfl); (case aB => exact (bel1 HB GE)); (case aF => exact (fun _ _ => trivial)); (case aO => exact (by (with_reducible repeat (first | apply Kd.R_alloc | apply Kd.R_drewN | apply Kd.R_drew)); exact Kd.R_mono (Kd.R_far (p := ⟨gb, 0, none⟩) HO.out (fun _ hk => hk) (.int .i64 n)) (fun _ _ => trivial))); (case aS => exact (below_size (bel1 HB GE))); (case aL => have := HLn.out; omega); intro v33 w15 ho hb hg hat; have n0_ := Aside0.mk (blk_grown (g := w.heap.size) (o := .cells #[.int .i64 a0_0, .int .i64 a0_1, .slice A0_2 l0_2.length c0_2] 26 (0, 0)) (by (with_reducible repeat (first | refine blk_drewN ?_ _ | refine blk_drew ?_ | refine blk_alloc ?_ _)); refine blk_far ?_ NE.out _; exact BS.out) hg (Kd.R_ne HO.out BS.out (by decide))); have n1_ := Aside0.mk hb; have n2_ := Aside0.mk ho; clear BS HB HO; have BS := n0_; have HB := n1_; have HO := n2_; clear n0_ n1_ n2_ ho hb hg hat))
 go_roundw
 case rel => exact ⟨j + 1, xs ++ [n], by go_num, ⟨hlt2⟩, HX3, HO, BS, HB⟩
 case measure => simp [intOf]; omega
end Go.Proofs.Ytipahijdcgoemaa.P
