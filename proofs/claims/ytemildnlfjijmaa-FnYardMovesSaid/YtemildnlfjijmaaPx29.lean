-- Written by a program of this session over the translation (a variant of the printer, see wip/gen); Lean checks it.
import Derived.Test.YtemildnlfjijmaaPx0
import Derived.Test.YtemildnlfjijmaaVC
import Derived.Test.YtemildnlfjijmaaU
import Derived.StillTailTactics
namespace Go.Proofs.Ytemildnlfjijmaa.P
open Go.RowKit Go.Proofs.YtemildnlfjijmaaW.PrintWords Go.Proofs.YtemildnlfjijmaaW.PrintLast Go.Proofs.YtemildnlfjijmaaW.PrintMore
attribute [local go_sem] Go.Proofs.Ytemildnlfjijmaa.V.isSome_setCell max2_int min2_int max_two min_two max_three min_three max_four min_four
set_option linter.unusedVariables false
set_option linter.unusedSimpArgs false
/-! ### impl_topOf: function 58 -/
def impl_topOf.f (l0 : List Int) : Option (Int) := if (l0.length : Int) = 0 then (some 0) else (if 0 ≤ (wrap64 ((l0.length : Int) - 1)) then (if (wrap64 ((l0.length : Int) - 1)) < (l0.length : Int) then (some (rd l0 (wrap64 ((l0.length : Int) - 1)))) else (none)) else (none))
set_option maxHeartbeats 8000000 in
set_option maxRecDepth 100000 in
theorem impl_topOf.calls (A0 : Option Addr) (c0 : Nat) (l0 : List Int) (r : Int) (w : World) (hr0 : Kd.C (Kd.int .i64) w A0 l0.length l0) (hc0 : l0.length ≤ c0) (h : impl_topOf.f l0 = some r) :
  Calls Try.prog 58 #[.slice A0 l0.length c0] w fun e w' => e = .returned (.int .i64 r) ∧ Drawn0 w w' := by
 have HR0 := Aside0.mk hr0
 have HC0 := Aside0.mk hc0
 clear hr0 hc0
 have H : (if (l0.length : Int) = 0 then (some 0) else (if 0 ≤ (wrap64 ((l0.length : Int) - 1)) then (if (wrap64 ((l0.length : Int) - 1)) < (l0.length : Int) then (some (rd l0 (wrap64 ((l0.length : Int) - 1)))) else (none)) else (none))) = some r := h
 clear h
 by_cases c2 : (l0.length : Int) = 0
 ·rw [if_pos c2] at H
  have c2b0 : ((l0.length : Int) == 0) = true := beq_iff_eq.mpr c2
  have c2b1 : ((l0.length : Int) != 0) = false := bne_eq_false_iff_eq.mpr c2
  clear c2
  obtain rfl := Option.some.inj H
  go_enter Try.func58, Try.ntmps58
  go_wp2
  go_ret
  exact ⟨by rfl , by repeat (exact Drawn0.refl _ )⟩
 rw [if_neg c2] at H
 have c2b0 : ((l0.length : Int) == 0) = false := beq_eq_false_iff_ne.mpr c2
 have c2b1 : ((l0.length : Int) != 0) = true := bne_iff_ne.mpr c2
 have c2b2 : ¬ (l0 = []) := fun h_ => c2 (by rw [h_]; rfl)
 obtain ⟨ji3, hji3⟩ : ∃ j_ : Int, (wrap64 ((l0.length : Int) - 1)) = j_ := ⟨_, rfl⟩
 replace H : (if 0 ≤ (ji3) then (if (ji3) < (l0.length : Int) then (some (rd l0 (ji3))) else (none)) else (none)) = some r := by (rw [hji3] at H; exact H) 
 have hji3w : (IntKind.i64.wrap ((l0.length : Int) - 1)) = ji3 := (i64_w _).trans hji3
 by_cases c4 : 0 ≤ (ji3)
 rotate_left
 ·rw [if_neg c4] at H
  exact absurd H (by simp)
 rw [if_pos c4] at H
 have c4b0 : decide (0 ≤ (ji3)) = true := decide_eq_true c4
 clear c4
 by_cases c5 : (ji3) < (l0.length : Int)
 rotate_left
 ·rw [if_neg c5] at H
  exact absurd H (by simp)
 rw [if_pos c5] at H
 have c5b0 : decide ((ji3) < (l0.length : Int)) = true := decide_eq_true c5
 clear c5
 obtain rfl := Option.some.inj H
 have p582 : 0 ≤ ((ji3) : Int) := oda
 have q582 : (ji3) < (l0.length : Int) := oda
 obtain ⟨ad582, e582, hx582_0⟩ := Kd.at_int HR0.out (ji3) p582 q582
 cases e582
 replace p582 := eq_true p582
 replace q582 := eq_true q582
 go_enter Try.func58, Try.ntmps58
 go_wp2
 go_ret
 exact ⟨by rfl , by repeat (exact Drawn0.refl _ )⟩
end Go.Proofs.Ytemildnlfjijmaa.P
namespace Go.Proofs.Ytemildnlfjijmaa.P
open Go.RowKit Go.Proofs.YtemildnlfjijmaaW.PrintWords Go.Proofs.YtemildnlfjijmaaW.PrintLast Go.Proofs.YtemildnlfjijmaaW.PrintMore
attribute [local go_sem] Go.Proofs.Ytemildnlfjijmaa.V.isSome_setCell max2_int min2_int max_two min_two max_three min_three max_four min_four
set_option linter.unusedVariables false
set_option linter.unusedSimpArgs false
/-! ### impl_Yard_moveTop: function 45 -/
theorem impl_moveTop.atRow {w : World} {A : Option Addr} {n : Nat} {xs : List (List Int)} (h : Kd.C (Kd.slice 3 (Kd.int .i64)) w A n xs) (i : Nat) (h1 : i < n) : ∃ ad A0 c0, A = some ad ∧ w.cell? (ad.add i) = some (.slice A0 (xs.getD i []).length c0) ∧ (xs.getD i []).length ≤ c0 ∧ Kd.C (Kd.int .i64) w A0 (xs.getD i []).length (xs.getD i []) := by
 obtain ⟨ad, c, e, _, hK, hc0⟩ := Kd.C_get h ([] : List Int) (i : Int) (by omega) (by omega)
 have hc : ∀ j u, c[j]? = some u → w.cell? (ad.add ((i : Int).toNat * 1 + j)) = some u := hc0
 obtain ⟨A0, c0, rfl, l0, g0⟩ := hK
 have hq := hc 0 _ rfl
 rw [Nat.mul_one, Nat.add_zero, Int.toNat_natCast] at hq
 exact ⟨ad, A0, c0, e, hq, l0, g0⟩
/-- An element of a table of the call's own: its row, and the table with a grown row stored back. -/
theorem impl_moveTop.elem {W : World} {base gt n cap : Nat} {ok : Nat → Prop} {tab : List (List Int)} (h : Kd.S (Kd.slice 3 (Kd.int .i64)) 30 W base ok (.slice (some ⟨gt, 0, none⟩) n cap) tab) (t : Nat) (ht : t < tab.length) :
    ∃ A0 c0 oki, W.cell? ⟨gt, t, none⟩ = some (.slice A0 (tab.getD t []).length c0) ∧ Kd.R (Kd.int .i64) 3 W base oki (.slice A0 (tab.getD t []).length c0) (tab.getD t []) ∧ (∀ k, oki k → ok k ∧ k ≠ gt) ∧
      ∀ (W1 : World) (v1 : Value) (y : List Int), W.grownBy W1 (Value.slice A0 (tab.getD t []).length c0).ownBlock → Kd.R (Kd.int .i64) 3 W1 base (fun k => oki k ∨ ok k ∧ W.heap.size ≤ k) v1 y →
        W1.cell? ⟨gt, t, none⟩ = some (.slice A0 (tab.getD t []).length c0) ∧ W1.frozen? ⟨gt, t, none⟩ = false ∧ Kd.S (Kd.slice 3 (Kd.int .i64)) 30 (W1.setCell ⟨gt, t, none⟩ v1) base ok (.slice (some ⟨gt, 0, none⟩) n cap) (tab.set t y) := by
 have hn := (Kd.S_reads' h).1
 obtain ⟨ad, A0, c0, eA, hcell, hcr, hCr⟩ := impl_moveTop.atRow (Kd.S_reads' h).2.2 t ht
 injection eA with eA
 subst eA
 obtain ⟨oki, c, hcl, hM, hcc, _, hoki, hH⟩ := Kd.S_elem h [] (t : Int) (by omega) (by omega)
 obtain ⟨v, rfl, hR⟩ := hM
 have hv := hcc 0 v rfl
 rw [show (Kd.slice 3 (Kd.int .i64)).sz = 1 from rfl, Nat.mul_one, Nat.add_zero, Int.toNat_natCast] at hv
 have hadd : (⟨gt, 0, none⟩ : Addr).add t = ⟨gt, t, none⟩ := by unfold Addr.add; split <;> simp_all
 rw [hadd] at hcell
 rw [hcell] at hv
 injection hv with hv
 subst hv
 rw [Int.toNat_natCast] at hR
 refine ⟨A0, c0, oki, hcell, hR, hoki, fun W1 v1 y hg hR1 => ?_⟩
 have hH1 := Kd.H_grown (Kd.H_widen hH) hg (fun k e_ => .inl (hR.1 k e_))
 obtain ⟨hc1, hf1⟩ := Kd.H_at hH1 (by omega) (by omega)
 have hc1 := hc1 0 _ rfl
 have hf1 := hf1 0
 have hs := (Kd.S_seg0 hH1 (by omega) (by omega) (seg := [v1]) (j := 0) (Nat.le_refl 1) (x' := y) (Kd.M_row hR1) (fun _ hk => hk)).1
 rw [show (Kd.slice 3 (Kd.int .i64)).sz = 1 from rfl, Nat.mul_one, Nat.add_zero, Int.toNat_natCast] at hc1 hf1 hs
 exact ⟨hc1, hf1, hs⟩
theorem impl_moveTop.cut {α : Type} {d' : Kd α} {e e' g n cap : Nat} {W : World} {base : Nat} {ok : Nat → Prop} {xs : List (List α)} (h : Kd.S (Kd.slice e' d') e W base ok (.slice (some ⟨g, 0, none⟩) n cap) xs) (i : Int) (h0 : 0 ≤ i) (h1 : i < n) {A : Option Addr} {len cc m : Nat} (hc : W.cell? ⟨g, i.toNat, none⟩ = some (.slice A len cc)) (hm : m ≤ (xs.getD i.toNat []).length) :
    Kd.S (Kd.slice e' d') e (W.setCell ⟨g, i.toNat, none⟩ (.slice A m cc)) base ok (.slice (some ⟨g, 0, none⟩) n cap) (xs.set i.toNat ((xs.getD i.toNat []).take m)) := by
 obtain ⟨oki, c, hcl, hM, hcc, _, hoki, hH⟩ := Kd.S_elem h [] i h0 h1
 obtain ⟨v, rfl, hR⟩ := hM
 have hv := hcc 0 v rfl
 rw [show (Kd.slice e' d').sz = 1 from rfl, Nat.mul_one, Nat.add_zero, hc] at hv
 injection hv with hv
 subst hv
 have hT := Kd.R_take hR hm
 have hs := (Kd.S_seg (okg := fun _ => False) (okp := oki) (Kd.H_mono hH (fun k hk => ⟨hk, id⟩)) h0 h1 (seg := [.slice A m cc]) (j := 0) (Nat.le_refl 1) (x' := (xs.getD i.toNat []).take m) ⟨_, rfl, hT⟩ (fun k hk => Or.inl hk) (fun k hk => hk.elim)).1
 rw [show (Kd.slice e' d').sz = 1 from rfl, Nat.mul_one, Nat.add_zero] at hs
 exact hs
/-- A table behind a move of a stack's top. -/
def mvTop (tab : List (List Int)) (f : Nat) : Int := (tab.getD f []).getD ((tab.getD f []).length - 1) 0
def mvCut (tab : List (List Int)) (f : Nat) : List (List Int) := tab.set f ((tab.getD f []).take ((tab.getD f []).length - 1))
def mvTab (tab : List (List Int)) (f t : Nat) : List (List Int) := (mvCut tab f).set t ((mvCut tab f).getD t [] ++ [mvTop tab f])
def impl_moveTop.T3 : Bool × List (List Nat × List Nat) := (true, [([], []), ([0], [0]), ([], []), ([], []), ([3], [3]), ([], []), ([4, 5], [4, 5]), ([6], [6]), ([], []), ([8], [8]), ([7, 9], [7, 9]), ([1, 2, 0, 1, 2, 3, 4, 5, 6, 7, 8, 9, 10], [1, 2]), ([11, 10, 10, 0, 1, 2, 3, 4, 5, 6, 7, 8, 9, 10], [10, 11])])
def impl_moveTop.B3 : List Nat := [0, 1, 0, 0, 8, 0, 56, 120, 0, 256, 1016, 2047, 4095]
theorem impl_moveTop.tab3 : rtab .any (opsOf Try.f45 3) = impl_moveTop.T3 := by kernel_rfl
theorem impl_moveTop.bits3 : waitsOk impl_moveTop.T3.2 impl_moveTop.B3 = true := by kernel_rfl
set_option maxHeartbeats 8000000 in
set_option maxRecDepth 100000 in
/-- THE CALL -/
theorem impl_moveTop.calls (gt n cap f t base : Nat) (ok : Nat → Prop) (tab : List (List Int)) (w : World) (h : Kd.S (Kd.slice 3 (Kd.int .i64)) 30 w base ok (.slice (some ⟨gt, 0, none⟩) n cap) tab) (hbase : base ≤ w.heap.size) (hfr : ∀ k, w.heap.size ≤ k → ok k) (hf : f < n) (ht : t < n) (h0 : 0 < (tab.getD f []).length) (h4 : ∀ row, row ∈ tab → row.length ≤ 1000) :
    Calls Try.prog 45 #[.agg #[.slice (some ⟨gt, 0, none⟩) n cap], .int .i64 (f : Int), .int .i64 (t : Int)] w fun e w' => e = .returned (.int .i64 (mvTop tab f)) ∧ Kd.S (Kd.slice 3 (Kd.int .i64)) 30 w' base ok (.slice (some ⟨gt, 0, none⟩) n cap) (mvTab tab f t) ∧ Below base w w' ∧ ∀ k, k < w.heap.size → ¬ ok k → w'.heap[k]? = w.heap[k]? := by
 have hu := Try.underlying26
 have hn := (Kd.S_reads' h).1
 have hn5 : n ≤ 9223372036854775807 := by have := (Kd.S_reads' h).2.2.2.1; omega
 have hft : f < tab.length := by omega
 have hfb : decide (f < n) = true := decide_eq_true hf
 have htb : decide (t < n) = true := decide_eq_true ht
 have hfi : (f : Int) < (n : Int) := by omega
 have hti : (t : Int) < (n : Int) := by omega
 obtain ⟨row, hrow⟩ : ∃ r : List Int, r = tab.getD f [] := ⟨_, rfl⟩
 have hmem : row ∈ tab := by rw [hrow, Go.Proofs.Ytemildnlfjijmaa.U.getD_at _ _ _ hft]; exact List.getElem_mem hft
 have hl4 := h4 row hmem
 have h0' : 0 < row.length := by rw [hrow]; exact h0
 obtain ⟨m, hm⟩ : ∃ m : Nat, row.length = m + 1 := ⟨row.length - 1, by omega⟩
 have hgt : base ≤ gt := Kd.S_base h gt (by simp [Value.ownBlock])
 have hokgt : ok gt := (Kd.S_R h).1 gt (by simp [Value.ownBlock])
 have HS0 := Aside0.mk h
 have HB0 := Aside0.mk (Below.refl base w)
 have HRow := Aside0.mk hrow
 have HM := Aside0.mk hm
 have HFt := Aside0.mk hft
 have HG := Aside0.mk hgt
 have HOG := Aside0.mk hokgt
 have HFr := Aside0.mk hfr
 have HBs := Aside0.mk hbase
 have H4 := Aside0.mk h4
 have HN := Aside0.mk hn
 clear h hrow hgt hokgt hfr hbase h4 hmem h0 hn hm
 have hrl : row.length ≤ 9223372036854775807 := by omega
 have htop : impl_topOf.f row = some (mvTop tab f) := by
   unfold impl_topOf.f mvTop
   rw [← HRow.out, if_neg (by omega), Go.Proofs.Ytemildnlfjijmaa.U.wr (by omega) (by omega), if_pos (by omega), if_pos (by omega)]
   rw [show ((row.length : Int) - 1) = ((row.length - 1 : Nat) : Int) by omega]; rfl
 have HTop := Aside0.mk htop
 clear htop
 obtain ⟨x, hx⟩ : ∃ x : Int, x = mvTop tab f := ⟨_, rfl⟩
 have HX := Aside0.mk hx
 rw [← hx] at HTop ⊢
 clear hx
 go_enter Try.func45, Try.ntmps45
 go_upto_region 1 with (first | ((with_reducible refine gate_dst (N := 3) rfl ?_); (try (refine gate_guard (by rfl) ?_; dsimp only)); refine box_event ?hg (N := 3) ?hd (cs := #[.slice (some ⟨gt, 0, none⟩) n cap]) (t := 26) ?hr ?_; (case hd | hg => rfl); (case hr => go_simp); intro gb hgb w1 hbox hb; have HS1 := Aside0.mk (Kd.S_below HS0.out hb); have BK1 := Aside0.mk hbox; have HB1 := Aside0.mk (hb.mono HBs.out); have HK1 := Aside0.mk (show w.heap.size ≤ w1.heap.size ∧ ∀ k, k < w.heap.size → w1.heap[k]? = w.heap[k]? from ⟨hb.size, fun k hk => hb.block k hk⟩); have HGb := Aside0.mk hgb; clear hb hbox hgb))
 obtain ⟨A0, c0, oki, hcel1, hR1, _, _⟩ := impl_moveTop.elem HS1.out f HFt.out
 rw [← HRow.out] at hcel1 hR1
 have HR1 := Aside0.mk (Kd.R_reads' hR1)
 clear hR1
 have hyd1 := bc BK1 0
 go_upto_region 2 with (first | (go_at_call 58; refine (impl_topOf.calls A0 c0 row x _ HR1.out.2.2 HR1.out.2.1 HTop.out).mono ?_; rintro e w2 ⟨rfl, hd⟩; have HS2 := Aside0.mk (Kd.S_below HS1.out hd.below); have BK2 := Aside0.mk (blk_below BK1.out hd.below); have HB2 := Aside0.mk (HB1.out.trans (hd.below.mono (Nat.le_trans HBs.out HB1.out.size))); have HK2 := Aside0.mk (show w.heap.size ≤ w2.heap.size ∧ ∀ k, k < w.heap.size → w2.heap[k]? = w.heap[k]? from ⟨Nat.le_trans HK1.out.1 hd.below.size, fun k hk => (hd.below.block k (Nat.lt_of_lt_of_le hk HK1.out.1)).trans (HK1.out.2 k hk)⟩); have hd_ := hd; clear hd))
 clear hcel1 hyd1 hd_
 have HS3 := Aside0.mk (Kd.S_drew HS2.out)
 have BK3 := Aside0.mk (blk_drew BK2.out)
 have HB3 := Aside0.mk (show Below base w w2.drew from HB2.out.trans ((below_drew1 (Below.refl w2.heap.size w2)).mono (Nat.le_trans HBs.out HB2.out.size)))
 have HK3 := Aside0.mk (show w.heap.size ≤ w2.drew.heap.size ∧ ∀ k, k < w.heap.size → w2.drew.heap[k]? = w.heap[k]? from HK2.out)
 obtain ⟨A2, c2, oki2, hcel2, hR2, hoki2, hst2⟩ := impl_moveTop.elem HS3.out f HFt.out
 have hfz2 := (hst2 _ _ _ (World.grownBy.refl _ _) (Kd.R_mono hR2 (fun _ hk => Or.inl hk))).2.1
 have hcut2 := impl_moveTop.cut HS3.out (f : Int) (by omega) (by omega) (m := m) (by rw [Int.toNat_natCast]; exact hcel2) (by rw [Int.toNat_natCast, ← HRow.out]; have := HM.out; omega)
 rw [Int.toNat_natCast] at hcut2
 have hmc : m ≤ c2 := by
   have h1 := (Kd.R_reads' hR2).2.1
   have h2 := HM.out
   rw [← HRow.out] at h1
   omega
 rw [← HRow.out] at hcel2 hcut2
 clear hR2 hoki2 hst2
 have hmb : decide (m ≤ c2) = true := decide_eq_true hmc
 have hmi : (m : Int) ≤ (c2 : Int) := by omega
 have hcd2 : w2.cell? ⟨gt, f, none⟩ = some (.slice A2 row.length c2) := hcel2
 have hyd2 := bc BK2 0
 have HCut := Aside0.mk hcut2
 have HCel := Aside0.mk hcel2
 have HFz := Aside0.mk hfz2
 clear hcut2 hcel2 hfz2 HS2 BK2 HB2 HK2 HS1 BK1 HB1 HK1 HR1
 have hwm : IntKind.i64.wrap ((row.length : Int) - 1) = (m : Int) := by
   have h1 := Go.Proofs.Ytemildnlfjijmaa.U.wr (x := (row.length : Int) - 1) (by omega) (by omega)
   have h2 := HM.out
   exact ((i64_w _).trans h1).trans (by omega)
 go_still_tail 17, (by kernel_rfl)
 clear hcd2 hyd2 hwm
 change wpList _ _ _ _ _ w2.drew
 generalize w2.drew = w3 at HS3 BK3 HB3 HK3 HCut HCel HFz ⊢
 have hcel3 := HCel.out
 have hfz3 := HFz.out
 have hne3 : gb ≠ gt := by
   have h1 := Kd.S_lt HS0.out gt (by simp [Value.ownBlock])
   have h2 := HGb.out
   omega
 go_upto_region 3 with (fail)
 clear hcel3 hfz3
 obtain ⟨tab1, htab1⟩ : ∃ r : List (List Int), r = tab.set f (row.take m) := ⟨_, rfl⟩
 have HCut1 := Aside0.mk (show Kd.S (Kd.slice 3 (Kd.int .i64)) 30 (w3.setCell ⟨gt, f, none⟩ (.slice A2 m c2)) base ok (.slice (some ⟨gt, 0, none⟩) n cap) tab1 by rw [htab1]; exact HCut.out)
 have BK4 := Aside0.mk (blk_far (p := ⟨gt, f, none⟩) BK3.out hne3 (.slice A2 m c2))
 have HB4 := Aside0.mk (HB3.out.setCell (p := ⟨gt, f, none⟩) HG.out (.slice A2 m c2))
 have HK4 := Aside0.mk (show w.heap.size ≤ (w3.setCell ⟨gt, f, none⟩ (.slice A2 m c2)).heap.size ∧ ∀ k, k < w.heap.size → ¬ ok k → (w3.setCell ⟨gt, f, none⟩ (.slice A2 m c2)).heap[k]? = w.heap[k]? from ⟨by simp; exact HK3.out.1, fun k hk hno => (Below.heap_setCell w3 ⟨gt, f, none⟩ _ k (fun e => hno (by rw [show k = gt from e]; exact HOG.out))).trans (HK3.out.2 k hk)⟩)
 have HT1 := Aside0.mk htab1
 have hT1 : (tab1.getD t []).length ≤ 1000 := by
   have h1 := H4.out
   rw [htab1]
   by_cases e : t < (tab.set f (row.take m)).length
   · rw [Go.Proofs.Ytemildnlfjijmaa.U.getD_at _ _ _ e]
     rcases List.mem_or_eq_of_mem_set (List.getElem_mem e) with h2 | h2
     · exact h1 _ h2
     · rw [h2, List.length_take]; omega
   · rw [show (tab.set f (row.take m)).getD t [] = [] by simp [List.getD, List.getElem?_eq_none (show (tab.set f (row.take m)).length ≤ t by omega)]]; simp
 have hl1 : tab1.length = tab.length := by rw [htab1, List.length_set]
 have HTt := Aside0.mk (show t < tab1.length by rw [hl1]; have := HN.out; omega)
 clear HCut HCel HFz HS3 BK3 HB3 HK3 htab1 hl1
 generalize w3.setCell ⟨gt, f, none⟩ (.slice A2 m c2) = w4 at HCut1 BK4 HB4 HK4 ⊢
 obtain ⟨row4, hrow4⟩ : ∃ r : List Int, r = tab1.getD t [] := ⟨_, rfl⟩
 rw [← hrow4] at hT1
 have HR4 := Aside0.mk hrow4
 clear hrow4
 have HS5 := Aside0.mk (Kd.S_drew HCut1.out)
 have BK5 := Aside0.mk (blk_drew BK4.out)
 have HB5 := Aside0.mk (show Below base w w4.drew from HB4.out.trans ((below_drew1 (Below.refl w4.heap.size w4)).mono (Nat.le_trans HBs.out HB4.out.size)))
 have HK5 := Aside0.mk (show w.heap.size ≤ w4.drew.heap.size ∧ ∀ k, k < w.heap.size → ¬ ok k → w4.drew.heap[k]? = w.heap[k]? from HK4.out)
 obtain ⟨A5, c5, oki5, hcel5, hR5, hoki5, hst5⟩ := impl_moveTop.elem HS5.out t HTt.out
 rw [← HR4.out] at hcel5 hR5 hst5
 have hcd5 := hcel5
 have HR5 := Aside0.mk hR5
 have HO5 := Aside0.mk hoki5
 have HSt5 := Aside0.mk hst5
 clear hcel5 hR5 hoki5 hst5 BK4 HB4 HK4 HCut1
 obtain ⟨row5, hrow5⟩ : ∃ r : List Int, r = row4 ++ [x] := ⟨_, rfl⟩
 have HR6 := Aside0.mk hrow5
 clear hrow5
 refine start_ (n := 13) (S := fun w' => w'.cell? ⟨gb, 0, none⟩ = some (.slice (some ⟨gt, 0, none⟩) n cap) ∧ w'.cell? ⟨gt, t, none⟩ = some (.slice A5 row4.length c5)) (ds := [12]) #[false, false, false, false, false, false, false, false, false, false, false, false, false] (by kernel_rfl) rfl rfl ⟨(blk_cell BK5.out 0).trans rfl, hcd5⟩ (fun hHeld => ?_)
 refine with_tabW impl_moveTop.tab3 impl_moveTop.bits3 (fun HT_ HW_ => ?_)
 generalize w4.drew = w5 at HS5 BK5 HB5 HK5 HR5 HO5 HSt5 hcd5 hHeld ⊢
 refine pu 0 (some 31) (bx 13 1) (h := ?_)
 refine pu 2 (some 33) (bx 13 5) (h := ?_)
 refine pu 3 (some 34) (bx 13 13) (h := ?_)
 refine pu 5 (some 36) (bx 13 45) (h := ?_)
 refine pu 8 (some 39) (bx 13 301) (h := ?_)
 refine tk2 1 (some 32) (bx 13 303) (h := ?_)
 refine tk2 4 (some 35) (bx 13 319) (h := ?_)
 refine tk2 6 (some 37) (bx 13 383) (h := ?_)
 refine tk2 7 (some 38) (bx 13 511) (h := ?_)
 refine on 9 (some 40) (bx 13 1023) (h := fun K hK => ?_)
 refine value_ (w1 := ?_) (v := ?_) (by rfl) rfl ?_ ?_
 rotate_left 2
 ·go_simp
  constructor
  ·rfl
  rfl
 refine hK.out _ _ ⟨(blk_cell (blk_alloc BK5.out _) 0).trans rfl, ((below_alloc (Below.refl w5.heap.size w5) _).cell (World.block_lt_of_cell? _ _ hcd5)).trans hcd5⟩ (fun hHeld => ?_)
 clear hK K
 refine nm 40 (h := ?_)
 refine on 10 (some 41) (bx 13 2047) (h := fun K hK => ?_)
 refine Kd.R_append_step (Kd.int .i64) (w0 := w) base (by rfl) (.tmp 38) (.tmp 40) 30 3 (.int .i64 0) 8 rfl Try.underlying30 info3 rfl (by decide) (by omega) (.slice A5 row4.length c5) row4 x [.int .i64 x] (fun k => oki5 k ∨ ok k ∧ w5.heap.size ≤ k) (fun _ => False) rfl rfl ?aP (fun _ hk => hk.elim) ?aF ?aO ?aB ?aS ?aL ?_
 (case aP => exact rfl)
 (case aB => exact HB5.out)
 (case aF => exact fun k hk => Or.inr ⟨HFr.out k (Nat.le_trans HK5.out.1 hk), hk⟩)
 (case aO => exact Kd.R_mono HR5.out (fun _ hk => Or.inl hk))
 (case aS => exact Nat.le_trans HBs.out HB5.out.size)
 (case aL => omega)
 intro v41 w8 ho hb hg hat
 rw [← HR6.out] at ho
 obtain ⟨A8, c8, rfl⟩ := Kd.R_slice ho
 obtain ⟨hcz8, hfz8, hS8⟩ := HSt5.out w8 _ row5 hg ho
 have HS8 := Aside0.mk hS8
 have BK8 := Aside0.mk (blk_grown BK5.out hg (Kd.R_ne HR5.out BK5.out (by decide)))
 have HB8 := Aside0.mk (hb.setCell (p := ⟨gt, t, none⟩) HG.out (.slice A8 row5.length c8))
 have HK8 := Aside0.mk (show ∀ k, k < w.heap.size → ¬ ok k → (w8.setCell ⟨gt, t, none⟩ (.slice A8 row5.length c8)).heap[k]? = w.heap[k]? from fun k hk hno => (Below.heap_setCell w8 ⟨gt, t, none⟩ _ k (fun e => hno (by rw [show k = gt from e]; exact HOG.out))).trans ((hg.block k (Nat.lt_of_lt_of_le hk HK5.out.1) (fun e => hno (HO5.out k (HR5.out.1 k e.symm)).1)).trans (HK5.out.2 k hk hno)))
 clear hS8 ho hb hg hat hcd5
 refine hK.out _ _ ⟨(blk_cell BK8.out 0).trans rfl, hcz8⟩ (fun hHeld => ?_)
 clear hK K
 refine nm 41 (h := ?_)
 refine pu 11 (some 42) (bx 13 4095) (h := ?_)
 refine last_ (i := 12) (N := none) #[true, true, true, true, true, true, true, true, true, true, true, true, true] rfl rfl (one_of HT_.out (by kernel_rfl)) (by decide) (fun K hK => ?_)
 refine skip_ (w1 := ?_) (by rfl) rfl ?_ ?_
 rotate_left
 ·go_simp
  rfl
 refine hK.out _ _ ?_
 clear hK K
 refine done_ (done_of HT_.out (by kernel_rfl)) ?_
 go_wp2
 go_ret
 refine ⟨rfl, ?_, HB8.out, HK8.out⟩
 have e1 : mvCut tab f = tab1 := by
   unfold mvCut
   rw [← HRow.out, show row.length - 1 = m by have := HM.out; omega]
   exact HT1.out.symm
 have e2 : mvTab tab f t = tab1.set t row5 := by
   unfold mvTab
   rw [e1, ← HX.out, HR6.out, HR4.out]
 rw [e2]
 exact HS8.out
end Go.Proofs.Ytemildnlfjijmaa.P
