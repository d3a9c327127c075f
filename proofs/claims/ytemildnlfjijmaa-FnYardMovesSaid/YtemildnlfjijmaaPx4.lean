-- Written by a program of this session over the translation (a variant of the printer, see wip/gen); Lean checks it.
import Derived.Test.YtemildnlfjijmaaVC
import Derived.Test.YtemildnlfjijmaaPx0
import Derived.Test.YtemildnlfjijmaaPx3
import Derived.Test.YtemildnlfjijmaaU
import Derived.StillTailTactics
namespace Go.Proofs.Ytemildnlfjijmaa.P
open Go.RowKit Go.Proofs.YtemildnlfjijmaaW.PrintWords Go.Proofs.YtemildnlfjijmaaW.PrintLast Go.Proofs.YtemildnlfjijmaaW.PrintMore
attribute [local go_sem] Go.Proofs.Ytemildnlfjijmaa.V.isSome_setCell max2_int min2_int max_two min_two max_three min_three max_four min_four
set_option linter.unusedVariables false
set_option linter.unusedSimpArgs false
/-! ### spec_l5Move: function 32 -/
theorem spec_l5Move.atRow {w : World} {A : Option Addr} {n : Nat} {xs : List (List Int)} (h : Kd.C (Kd.slice 3 (Kd.int .i64)) w A n xs) (i : Nat) (h1 : i < n) : ∃ ad A0 c0, A = some ad ∧ w.cell? (ad.add i) = some (.slice A0 (xs.getD i []).length c0) ∧ (xs.getD i []).length ≤ c0 ∧ Kd.C (Kd.int .i64) w A0 (xs.getD i []).length (xs.getD i []) := by
 obtain ⟨ad, c, e, _, hK, hc0⟩ := Kd.C_get h ([] : List Int) (i : Int) (by omega) (by omega)
 have hc : ∀ j u, c[j]? = some u → w.cell? (ad.add ((i : Int).toNat * 1 + j)) = some u := hc0
 obtain ⟨A0, c0, rfl, l0, g0⟩ := hK
 have hq := hc 0 _ rfl
 rw [Nat.mul_one, Nat.add_zero, Int.toNat_natCast] at hq
 exact ⟨ad, A0, c0, e, hq, l0, g0⟩
/-- An element of a table of the call's own: its row, and the table with a grown row stored back. -/
theorem spec_l5Move.elemB {W : World} {base gt n cap : Nat} {ok : Nat → Prop} {tab : List (List Int)} (h : Kd.S (Kd.slice 3 (Kd.int .i64)) 30 W base ok (.slice (some ⟨gt, 0, none⟩) n cap) tab) (t : Nat) (ht : t < tab.length) :
    ∃ A0 c0 oki, W.cell? ⟨gt, t, none⟩ = some (.slice A0 (tab.getD t []).length c0) ∧ Kd.R (Kd.int .i64) 3 W base oki (.slice A0 (tab.getD t []).length c0) (tab.getD t []) ∧ (∀ k, oki k → ok k ∧ k ≠ gt) ∧
      ∀ (W1 : World) (v1 : Value) (y : List Int), Below W.heap.size W W1 → Kd.R (Kd.int .i64) 3 W1 base (fun k => oki k ∨ ok k ∧ W.heap.size ≤ k) v1 y →
        W1.cell? ⟨gt, t, none⟩ = some (.slice A0 (tab.getD t []).length c0) ∧ W1.frozen? ⟨gt, t, none⟩ = false ∧ Kd.S (Kd.slice 3 (Kd.int .i64)) 30 (W1.setCell ⟨gt, t, none⟩ v1) base ok (.slice (some ⟨gt, 0, none⟩) n cap) (tab.set t y) := by
 have hn := (Kd.S_reads' h).1
 obtain ⟨ad, A0, c0, eA, hcell, hcr, hCr⟩ := spec_l5Move.atRow (Kd.S_reads' h).2.2 t ht
 injection eA with eA
 subst eA
 obtain ⟨oki, c, hcl, hM, hcc, _, hoki, hH⟩ := Kd.S_elem h [] (t : Int) (by omega) (by omega)
 obtain ⟨v, rfl, hR⟩ := hM
 have hv := hcc 0 v rfl
 rw [show (Kd.slice 3 (Kd.int .i64)).sz = 1 from rfl, Nat.mul_one, Nat.add_zero, Int.toNat_natCast] at hv
 have hadd : (⟨gt, 0, none⟩ : Addr).add t = ⟨gt, t, none⟩ := by unfold Addr.add; split <;> simp_all
 rw [hadd] at hcell
 rw [hcell] at hv
 injection hv with hv
 subst hv
 rw [Int.toNat_natCast] at hR
 refine ⟨A0, c0, oki, hcell, hR, hoki, fun W1 v1 y hg hR1 => ?_⟩
 have hH1 := Kd.H_below (Kd.H_widen hH) hg
 obtain ⟨hc1, hf1⟩ := Kd.H_at hH1 (by omega) (by omega)
 have hc1 := hc1 0 _ rfl
 have hf1 := hf1 0
 have hs := (Kd.S_seg0 hH1 (by omega) (by omega) (seg := [v1]) (j := 0) (Nat.le_refl 1) (x' := y) (Kd.M_row hR1) (fun _ hk => hk)).1
 rw [show (Kd.slice 3 (Kd.int .i64)).sz = 1 from rfl, Nat.mul_one, Nat.add_zero, Int.toNat_natCast] at hc1 hf1 hs
 exact ⟨hc1, hf1, hs⟩
/-- An element of a table of the call's own: its row, and the table with a grown row stored back. -/
theorem spec_l5Move.elem {W : World} {base gt n cap : Nat} {ok : Nat → Prop} {tab : List (List Int)} (h : Kd.S (Kd.slice 3 (Kd.int .i64)) 30 W base ok (.slice (some ⟨gt, 0, none⟩) n cap) tab) (t : Nat) (ht : t < tab.length) :
    ∃ A0 c0 oki, W.cell? ⟨gt, t, none⟩ = some (.slice A0 (tab.getD t []).length c0) ∧ Kd.R (Kd.int .i64) 3 W base oki (.slice A0 (tab.getD t []).length c0) (tab.getD t []) ∧ (∀ k, oki k → ok k ∧ k ≠ gt) ∧
      ∀ (W1 : World) (v1 : Value) (y : List Int), W.grownBy W1 (Value.slice A0 (tab.getD t []).length c0).ownBlock → Kd.R (Kd.int .i64) 3 W1 base (fun k => oki k ∨ ok k ∧ W.heap.size ≤ k) v1 y →
        W1.cell? ⟨gt, t, none⟩ = some (.slice A0 (tab.getD t []).length c0) ∧ W1.frozen? ⟨gt, t, none⟩ = false ∧ Kd.S (Kd.slice 3 (Kd.int .i64)) 30 (W1.setCell ⟨gt, t, none⟩ v1) base ok (.slice (some ⟨gt, 0, none⟩) n cap) (tab.set t y) := by
 have hn := (Kd.S_reads' h).1
 obtain ⟨ad, A0, c0, eA, hcell, hcr, hCr⟩ := spec_l5Move.atRow (Kd.S_reads' h).2.2 t ht
 injection eA with eA
 subst eA
 obtain ⟨oki, c, hcl, hM, hcc, _, hoki, hH⟩ := Kd.S_elem h [] (t : Int) (by omega) (by omega)
 obtain ⟨v, rfl, hR⟩ := hM
 have hv := hcc 0 v rfl
 rw [show (Kd.slice 3 (Kd.int .i64)).sz = 1 from rfl, Nat.mul_one, Nat.add_zero, Int.toNat_natCast] at hv
 have hadd : (⟨gt, 0, none⟩ : Addr).add t = ⟨gt, t, none⟩ := by unfold Addr.add; split <;> simp_all
 rw [hadd] at hcell
 rw [hcell] at hv
 injection hv with hv
 subst hv
 rw [Int.toNat_natCast] at hR
 refine ⟨A0, c0, oki, hcell, hR, hoki, fun W1 v1 y hg hR1 => ?_⟩
 have hH1 := Kd.H_grown (Kd.H_widen hH) hg (fun k e_ => .inl (hR.1 k e_))
 obtain ⟨hc1, hf1⟩ := Kd.H_at hH1 (by omega) (by omega)
 have hc1 := hc1 0 _ rfl
 have hf1 := hf1 0
 have hs := (Kd.S_seg0 hH1 (by omega) (by omega) (seg := [v1]) (j := 0) (Nat.le_refl 1) (x' := y) (Kd.M_row hR1) (fun _ hk => hk)).1
 rw [show (Kd.slice 3 (Kd.int .i64)).sz = 1 from rfl, Nat.mul_one, Nat.add_zero, Int.toNat_natCast] at hc1 hf1 hs
 exact ⟨hc1, hf1, hs⟩
theorem spec_l5Move.cut {α : Type} {d' : Kd α} {e e' g n cap : Nat} {W : World} {base : Nat} {ok : Nat → Prop} {xs : List (List α)} (h : Kd.S (Kd.slice e' d') e W base ok (.slice (some ⟨g, 0, none⟩) n cap) xs) (i : Int) (h0 : 0 ≤ i) (h1 : i < n) {A : Option Addr} {len cc m : Nat} (hc : W.cell? ⟨g, i.toNat, none⟩ = some (.slice A len cc)) (hm : m ≤ (xs.getD i.toNat []).length) :
    Kd.S (Kd.slice e' d') e (W.setCell ⟨g, i.toNat, none⟩ (.slice A m cc)) base ok (.slice (some ⟨g, 0, none⟩) n cap) (xs.set i.toNat ((xs.getD i.toNat []).take m)) := by
 obtain ⟨oki, c, hcl, hM, hcc, _, hoki, hH⟩ := Kd.S_elem h [] i h0 h1
 obtain ⟨v, rfl, hR⟩ := hM
 have hv := hcc 0 v rfl
 rw [show (Kd.slice e' d').sz = 1 from rfl, Nat.mul_one, Nat.add_zero, hc] at hv
 injection hv with hv
 subst hv
 have hT := Kd.R_take hR hm
 have hs := (Kd.S_seg (okg := fun _ => False) (okp := oki) (Kd.H_mono hH (fun k hk => ⟨hk, id⟩)) h0 h1 (seg := [.slice A m cc]) (j := 0) (Nat.le_refl 1) (x' := (xs.getD i.toNat []).take m) ⟨_, rfl, hT⟩ (fun k hk => Or.inl hk) (fun k hk => hk.elim)).1
 rw [show (Kd.slice e' d').sz = 1 from rfl, Nat.mul_one, Nat.add_zero] at hs
 exact hs
def l5Top (tab : List (List Int)) (f : Nat) : Int := (tab.getD f []).getD ((tab.getD f []).length - 1) 0
def l5Cut (tab : List (List Int)) (f : Nat) : List (List Int) := tab.set f ((tab.getD f []).take ((tab.getD f []).length - 1))
def l5Mv (tab : List (List Int)) (f t : Nat) : List (List Int) := (l5Cut tab f).set t ((l5Cut tab f).getD t [] ++ [l5Top tab f])
def spec_l5Move.g (a1 a2 : Int) (y : List (List Int)) : Option (List (List Int)) := if 0 ≤ a1 ∧ a1 < (y.length : Int) ∧ 0 ≤ a2 ∧ a2 < (y.length : Int) ∧ 0 < (y.getD a1.toNat []).length ∧ (∀ row, row ∈ y → row.length ≤ 1000) then some (l5Mv y a1.toNat a2.toNat) else none
def spec_l5Move.f (k : Nat) (l0_0 : List (List Int)) (a1 a2 : Int) : Option (List (List Int)) := (spec_l5Own.f k l0_0).bind (spec_l5Move.g a1 a2)
def spec_l5Move.T5 : Bool × List (List Nat × List Nat) := (true, [([], []), ([0], [0]), ([], []), ([], []), ([3], [3]), ([], []), ([4, 5], [4, 5]), ([6], [6]), ([7], [7]), ([], []), ([9], [9]), ([8, 10, 8], [8, 10]), ([1, 2, 0, 1, 2, 3, 4, 5, 6, 7, 8, 9, 10, 11], [1, 2]), ([12, 11, 11, 0, 1, 2, 3, 4, 5, 6, 7, 8, 9, 10, 11], [11, 12])])
def spec_l5Move.B5 : List Nat := [0, 1, 0, 0, 8, 0, 56, 120, 248, 0, 512, 2040, 4095, 8191]
theorem spec_l5Move.tab5 : rtab .any (opsOf Try.f32 5) = spec_l5Move.T5 := by kernel_rfl
theorem spec_l5Move.bits5 : waitsOk spec_l5Move.T5.2 spec_l5Move.B5 = true := by kernel_rfl
set_option maxHeartbeats 8000000 in
set_option maxRecDepth 100000 in
/-- THE CALL -/
theorem spec_l5Move.calls (k : Nat) (A0_0 : Option Addr) (c0_0 : Nat) (l0_0 : List (List Int)) (a1 : Int) (a2 : Int) (r : List (List Int)) (w : World) (hr0_0 : Kd.C (Kd.slice 3 (Kd.int .i64)) w A0_0 l0_0.length l0_0) (hc0_0 : l0_0.length ≤ c0_0) (h : spec_l5Move.f k l0_0 a1 a2 = some r) :
    Calls Try.prog 32 #[.agg #[.slice A0_0 l0_0.length c0_0], .int .i64 a1, .int .i64 a2] w fun e w' => ∃ v0_ : Value, e = .returned (.agg #[v0_]) ∧ Kd.S (Kd.slice 3 (Kd.int .i64)) 30 w' w.heap.size (fun _ => True) v0_ r ∧ Below w.heap.size w w' := by
 have hu := Try.underlying26
 unfold spec_l5Move.f at h
 obtain ⟨tab, hown, hg⟩ := Option.bind_eq_some_iff.1 h
 clear h
 unfold spec_l5Move.g at hg
 split at hg
 case isFalse => cases hg
 case isTrue hin =>
 obtain ⟨hf0, hf1, ht0, ht1, h0, h4⟩ := hin
 injection hg with hg
 subst hg
 obtain ⟨f, rfl⟩ := Int.eq_ofNat_of_zero_le hf0
 obtain ⟨t, rfl⟩ := Int.eq_ofNat_of_zero_le ht0
 rw [Int.toNat_natCast] at h0
 have hft : f < tab.length := by omega
 obtain ⟨row, hrow⟩ : ∃ r : List Int, r = tab.getD f [] := ⟨_, rfl⟩
 have hmem : row ∈ tab := by rw [hrow, Go.Proofs.Ytemildnlfjijmaa.U.getD_at _ _ _ hft]; exact List.getElem_mem hft
 have hl4 := h4 row hmem
 have h0' : 0 < row.length := by rw [hrow]; exact h0
 obtain ⟨m, hm⟩ : ∃ m : Nat, row.length = m + 1 := ⟨row.length - 1, by omega⟩
 have HR0 := Aside0.mk hr0_0
 have HC0 := Aside0.mk hc0_0
 have HOwn := Aside0.mk hown
 have HRow := Aside0.mk hrow
 have HM := Aside0.mk hm
 have HFt := Aside0.mk hft
 have HTt0 := Aside0.mk (show t < tab.length by omega)
 have H4 := Aside0.mk h4
 have HB0 := Aside0.mk (Below.refl w.heap.size w)
 clear hr0_0 hc0_0 hown hrow h4 hmem h0 hf0 hf1 ht0 ht1 hm
 go_enter Try.func32, Try.ntmps32
 go_upto_region 1 with (first | ((with_reducible refine gate_dst (N := 3) rfl ?_); (try (refine gate_guard (by rfl) ?_; dsimp only)); refine box_event ?hg (N := 3) ?hd (cs := #[.slice A0_0 l0_0.length c0_0]) (t := 26) ?hr ?_; (case hd | hg => rfl); (case hr => go_simp); intro gb hgb w1 hbox hb; have BK1 := Aside0.mk hbox; have HB1 := Aside0.mk (below_step (bel HB0) hb); clear hb hbox hgb) | ((with_reducible refine gate_dst (N := 6) rfl ?_); (try (refine gate_guard (by rfl) ?_; dsimp only)); refine box_event ?hg (N := 6) ?hd (cs := #[.slice none 0 0]) (t := 26) ?hr ?_; (case hd | hg => rfl); (case hr => go_simp); intro gr hgr w2 hbox hb; have BK2 := Aside0.mk (blk_below BK1.out hb); have BR2 := Aside0.mk hbox; have GR := Aside0.mk (show w.heap.size ≤ gr by rw [hgr]; exact below_size HB1.out); have HB2 := Aside0.mk (below_step HB1.out hb); clear hb hbox hgr))
 have hyd2 := bc BK2 0
 go_upto_region 2 with (first | (go_at_call 43; refine (spec_l5Own.calls k _ _ l0_0 tab _ (Kd.C_below HR0.out HB2.out) HC0.out HOwn.out).mono ?_; rintro e w3 ⟨v0, rfl, hS, hb⟩; obtain ⟨gt, cap, e15, hgb, hgl, _⟩ := Kd.S_form hS (by omega); subst e15; have HS3 := Aside0.mk (Kd.S_lower hS (below_size HB2.out)); have BR3 := Aside0.mk (blk_below BR2.out hb); have HB3 := Aside0.mk (below_step HB2.out hb); have HG := Aside0.mk (show w.heap.size ≤ gt from Nat.le_trans (below_size HB2.out) hgb); have NGR := Aside0.mk (show gr ≠ gt by have := blk_lt BR2.out; omega); clear hS hb hgb hgl))
 clear hyd2 BK1 HB1 HB2 BK2 BR2
 have HS4 := Aside0.mk (Kd.S_alloc HS3.out (.cells #[.slice (some ⟨gt, 0, none⟩) tab.length cap] 26))
 have BY4 := Aside0.mk (blk_new w3 (.cells #[.slice (some ⟨gt, 0, none⟩) tab.length cap] 26 (0, 0)))
 have BR4 := Aside0.mk (blk_alloc BR3.out (.cells #[.slice (some ⟨gt, 0, none⟩) tab.length cap] 26))
 have HB4 := Aside0.mk (below_alloc HB3.out (.cells #[.slice (some ⟨gt, 0, none⟩) tab.length cap] 26))
 have NYT := Aside0.mk (show w3.heap.size ≠ gt by have := Kd.S_lt HS3.out gt (by simp [Value.ownBlock]); omega)
 have NRY := Aside0.mk (show gr ≠ w3.heap.size by have := blk_lt BR3.out; omega)
 have GY := Aside0.mk (show w.heap.size ≤ w3.heap.size from below_size HB3.out)
 clear HS3 BR3 HB3
 generalize w3.alloc (.cells #[.slice (some ⟨gt, 0, none⟩) tab.length cap] 26) = w4 at HS4 BY4 BR4 HB4 ⊢
 generalize w3.heap.size = gy at BY4 NYT NRY GY ⊢
 obtain ⟨x, hx⟩ : ∃ x : Int, x = l5Top tab f := ⟨_, rfl⟩
 have HX := Aside0.mk hx
 clear hx
 obtain ⟨A4, c4, oki4, hcel4, hR4, _, _⟩ := spec_l5Move.elem HS4.out f HFt.out
 rw [← HRow.out] at hcel4 hR4
 obtain ⟨ad4, c_, e4, _, hK4, hcc4⟩ := Kd.C_get (Kd.R_reads' hR4).2.2 (0 : Int) (m : Int) (by omega) (by have := HM.out; omega)
 have hK4 : c_ = [.int .i64 (row.getD (m : Int).toNat 0)] := hK4
 subst hK4
 subst e4
 have hcx : w4.cell? (ad4.add m) = some (.int .i64 x) := by
   have h1 : ∀ j u, [Value.int .i64 (row.getD (m : Int).toNat 0)][j]? = some u → w4.cell? (ad4.add ((m : Int).toNat * 1 + j)) = some u := hcc4
   have h2 := h1 0 _ rfl
   rw [Nat.mul_one, Nat.add_zero, Int.toNat_natCast] at h2
   rw [h2, HX.out]
   unfold l5Top
   rw [← HRow.out, show row.length - 1 = m by have := HM.out; omega]
 clear hcc4 hR4
 have hwm : IntKind.i64.wrap ((row.length : Int) - 1) = (m : Int) := by
   have h1 := Go.Proofs.Ytemildnlfjijmaa.U.wr (x := (row.length : Int) - 1) (by omega) (by omega)
   have h2 := HM.out
   exact ((i64_w _).trans h1).trans (by omega)
 have hmr : decide (m < row.length) = true := decide_eq_true (by have := HM.out; omega)
 have hmri : (m : Int) < (row.length : Int) := by have := HM.out; omega
 have hfb : decide (f < tab.length) = true := decide_eq_true HFt.out
 have hfi : (f : Int) < (tab.length : Int) := by have := HFt.out; omega
 have htb : decide (t < tab.length) = true := decide_eq_true HTt0.out
 have hti : (t : Int) < (tab.length : Int) := by have := HTt0.out; omega
 have hyd4 : w4.cell? ⟨gy, 0, none⟩ = some (.slice (some ⟨gt, 0, none⟩) tab.length cap) := (blk_cell BY4.out 0).trans rfl
 go_upto_region 4 with (fail)
 clear hcel4 hcx hyd4 hwm
 have HS5 := Aside0.mk (Kd.S_drew HS4.out)
 have BY5 := Aside0.mk (blk_drew BY4.out)
 have BR5 := Aside0.mk (blk_drew BR4.out)
 have HB5 := Aside0.mk (below_drew1 HB4.out)
 obtain ⟨A5, c5, oki5, hcel5, hR5, _, hst5⟩ := spec_l5Move.elem HS5.out f HFt.out
 have hfz5 := (hst5 _ _ _ (World.grownBy.refl _ _) (Kd.R_mono hR5 (fun _ hk => Or.inl hk))).2.1
 have hmc : m ≤ c5 := by
   have h1 := (Kd.R_reads' hR5).2.1
   have h2 := HM.out
   rw [← HRow.out] at h1
   omega
 have hcut5 := spec_l5Move.cut HS5.out (f : Int) (by omega) (by omega) (m := m) (by rw [Int.toNat_natCast]; exact hcel5) (by rw [Int.toNat_natCast, ← HRow.out]; have := HM.out; omega)
 rw [Int.toNat_natCast] at hcut5
 rw [← HRow.out] at hcel5 hcut5
 clear hR5 hst5
 have hmb : decide (m ≤ c5) = true := decide_eq_true hmc
 have hmi : (m : Int) ≤ (c5 : Int) := by omega
 have hcd4 : w4.cell? ⟨gt, f, none⟩ = some (.slice A5 row.length c5) := hcel5
 have hyd4 : w4.cell? ⟨gy, 0, none⟩ = some (.slice (some ⟨gt, 0, none⟩) tab.length cap) := (blk_cell BY4.out 0).trans rfl
 obtain ⟨tab1, htab1⟩ : ∃ r : List (List Int), r = tab.set f (row.take m) := ⟨_, rfl⟩
 rw [← htab1] at hcut5
 have HT1 := Aside0.mk htab1
 have HCut := Aside0.mk hcut5
 have HCel := Aside0.mk hcel5
 have HFz := Aside0.mk hfz5
 clear hcut5 hcel5 hfz5 HS4 BY4 BR4 HB4
 go_still_tail 11, (by kernel_rfl)
 clear hcd4 hyd4
 change wpList _ _ _ _ _ w4.drew
 generalize w4.drew = w5 at HS5 BY5 BR5 HB5 HCut HCel HFz ⊢
 have hcel5 := HCel.out
 have hfz5 := HFz.out
 go_upto_region 5 with (fail)
 clear hcel5 hfz5
 have hT1 : (tab1.getD t []).length ≤ 1000 := by
   have h1 := H4.out
   rw [htab1]
   by_cases e : t < (tab.set f (row.take m)).length
   · rw [Go.Proofs.Ytemildnlfjijmaa.U.getD_at _ _ _ e]
     rcases List.mem_or_eq_of_mem_set (List.getElem_mem e) with h2 | h2
     · exact h1 _ h2
     · rw [h2, List.length_take]; omega
   · rw [show (tab.set f (row.take m)).getD t [] = [] by simp [List.getD, List.getElem?_eq_none (show (tab.set f (row.take m)).length ≤ t by omega)]]; simp
 have hl1 : tab1.length = tab.length := by rw [htab1, List.length_set]
 have HTt := Aside0.mk (show t < tab1.length by rw [hl1]; exact HTt0.out)
 have BY6 := Aside0.mk (blk_far (p := ⟨gt, f, none⟩) BY5.out NYT.out (.slice A5 m c5))
 have BR6 := Aside0.mk (blk_far (p := ⟨gt, f, none⟩) BR5.out NGR.out (.slice A5 m c5))
 have HB6 := Aside0.mk (below_set HB5.out HG.out (j := f) (v := .slice A5 m c5))
 have HS6 := HCut
 clear HCut HCel HFz HS5 BY5 BR5 HB5 htab1 hl1
 generalize w5.setCell ⟨gt, f, none⟩ (.slice A5 m c5) = w6 at HS6 BY6 BR6 HB6 ⊢
 obtain ⟨row4, hrow4⟩ : ∃ r : List Int, r = tab1.getD t [] := ⟨_, rfl⟩
 rw [← hrow4] at hT1
 have HR4 := Aside0.mk hrow4
 clear hrow4
 have HS7 := Aside0.mk (Kd.S_drew HS6.out)
 have BY7 := Aside0.mk (blk_drew BY6.out)
 have BR7 := Aside0.mk (blk_drew BR6.out)
 have HB7 := Aside0.mk (below_drew1 HB6.out)
 obtain ⟨A7, c7, oki7, hcel7, hR7, hoki7, hst7⟩ := spec_l5Move.elemB HS7.out t HTt.out
 rw [← HR4.out] at hcel7 hR7
 have HSt7 := Aside0.mk hst7
 have hcd7 := hcel7
 have HR7 := Aside0.mk (Kd.R_reads' hR7)
 clear hcel7 hR7 hoki7 hst7 HS6 BY6 BR6 HB6
 obtain ⟨row5, hrow5⟩ : ∃ r : List Int, r = row4 ++ [x] := ⟨_, rfl⟩
 have HR6 := Aside0.mk hrow5
 have howne : spec_l1Own.f row4 = some row4 := by
   unfold spec_l1Own.f
   simp only [Option.bind_some]
   rw [if_pos (by simp; omega), List.nil_append]
 have HO1 := Aside0.mk howne
 clear hrow5 howne
 refine start_ (n := 14) (S := fun w' => w'.cell? ⟨gy, 0, none⟩ = some (.slice (some ⟨gt, 0, none⟩) tab.length cap) ∧ w'.cell? ⟨gt, t, none⟩ = some (.slice A7 row4.length c7)) (ds := [13]) #[false, false, false, false, false, false, false, false, false, false, false, false, false, false] (by kernel_rfl) rfl rfl ⟨(blk_cell BY7.out 0).trans rfl, hcd7⟩ (fun hHeld => ?_)
 refine with_tabW spec_l5Move.tab5 spec_l5Move.bits5 (fun HT_ HW_ => ?_)
 generalize w6.drew = w7 at HS7 BY7 BR7 HB7 HR7 HSt7 hcd7 hHeld ⊢
 refine pu 0 (some 38) (bx 14 1) (h := ?_)
 refine pu 2 (some 40) (bx 14 5) (h := ?_)
 refine pu 3 (some 41) (bx 14 13) (h := ?_)
 refine pu 5 (some 43) (bx 14 45) (h := ?_)
 refine pu 9 (some 47) (bx 14 557) (h := ?_)
 refine tk2 1 (some 39) (bx 14 559) (h := ?_)
 refine tk2 4 (some 42) (bx 14 575) (h := ?_)
 refine tk2 6 (some 44) (bx 14 639) (h := ?_)
 refine tk2 7 (some 45) (bx 14 767) (h := ?_)
 have HY7 := Aside0.mk (show w7.cell? ⟨gy, 0, none⟩ = some (.slice (some ⟨gt, 0, none⟩) tab.length cap) from (blk_cell BY7.out 0).trans rfl)
 have HC7 := Aside0.mk hcd7
 clear hcd7
 refine join_ (σ := Value × Value) 3 #[true, true, true, true, true, true, true, true, true, true, true, false, false, false] (fun s_ => [(46, s_.1), (48, s_.2)]) (fun s_ w' => Kd.R (Kd.int .i64) 3 w' w7.heap.size (fun _ => True) s_.1 row4 ∧ Kd.R (Kd.int .i64) 3 w' w7.heap.size (fun _ => True) s_.2 [x] ∧ Below w7.heap.size w7 w') ?_ ?_
 rotate_left
 ·intro hCont
  refine two_ (i := 8) (j := 10) (Ni := some 46) (Nj := some 48) #[true, true, true, true, true, true, true, true, true, true, false, false, false, false] #[true, true, true, true, true, true, true, true, false, true, true, false, false, false] rfl rfl rfl rfl (two_of HT_.out (by kernel_rfl)) (by decide) (by decide) (fun K hK => ?_) (fun K hK => ?_)
  ·refine goes_ Try.func46 (by kernel_rfl) rfl #[.slice A7 row4.length c7] (by rfl) rfl rfl gmp ?_
   with_reducible refine (spec_l1Own.calls _ _ row4 row4 _ ?side1 ?side2 HO1.out).mono ?_
   (case side1 => exact HR7.out.2.2)
   (case side2 => exact HR7.out.2.1)
   rintro e w8 ⟨v46, rfl, ho46, hb46⟩
   refine ⟨_, rfl, ?_⟩
   refine hK.out _ _ ⟨((hb46).cell (World.block_lt_of_cell? _ _ HY7.out)).trans HY7.out, ((hb46).cell (World.block_lt_of_cell? _ _ HC7.out)).trans HC7.out⟩ (fun hHeld => ?_)
   clear hK K
   refine nm 46 (h := ?_)
   refine on 10 (some 48) (bx 14 2047) (h := fun K hK => ?_)
   refine Kd.R_lit_step (Kd.int .i64) _ 3 ?hg (N := 48) ?hd (xs := ([x] : List Int)) (inner := [.int .i64 x]) (ok := fun _ => True) (okp := fun _ => True) ?hr ?hp (fun _ hk => hk) trivial (Below.refl _ _) (Nat.le_refl _) (by simp) ?_; (case hd | hg => rfl); (case hr => go_simp); (case hp => exact (Reps.one (show Kd.M (Kd.int .i64) _ _ _ x [.int .i64 x] from rfl) (Reps.none _ _)))
   intro v48 w9 ho48 hb48 hg_ hnew_
   clear hg_ hnew_
   have hb9 := below_step hb46 hb48
   refine hK.out _ _ ⟨((hb9).cell (World.block_lt_of_cell? _ _ HY7.out)).trans HY7.out, ((hb9).cell (World.block_lt_of_cell? _ _ HC7.out)).trans HC7.out⟩ (fun hHeld => ?_)
   clear hK K
   refine nm 48 (h := ?_)
   exact norm_ (by simp only [putAll, Act.put, List.setIfInBounds_toArray, List.set_cons_zero, List.set_cons_succ]) (hCont (v46, v48) _ ⟨Kd.R_below ho46 hb48, Kd.R_lower ho48 (below_size hb46), hb9⟩)
  refine Kd.R_lit_step (Kd.int .i64) _ 3 ?hg (N := 48) ?hd (xs := ([x] : List Int)) (inner := [.int .i64 x]) (ok := fun _ => True) (okp := fun _ => True) ?hr ?hp (fun _ hk => hk) trivial (Below.refl _ _) (Nat.le_refl _) (by simp) ?_; (case hd | hg => rfl); (case hr => go_simp); (case hp => exact (Reps.one (show Kd.M (Kd.int .i64) _ _ _ x [.int .i64 x] from rfl) (Reps.none _ _)))
  intro v48 w8 ho48 hb48 hg_ hnew_
  clear hg_ hnew_
  refine hK.out _ _ ⟨((hb48).cell (World.block_lt_of_cell? _ _ HY7.out)).trans HY7.out, ((hb48).cell (World.block_lt_of_cell? _ _ HC7.out)).trans HC7.out⟩ (fun hHeld => ?_)
  clear hK K
  refine nm 48 (h := ?_)
  refine on 8 (some 46) (bx 14 2047) (h := fun K hK => ?_)
  refine goes_ Try.func46 (by kernel_rfl) rfl #[.slice A7 row4.length c7] (by rfl) rfl rfl gmp ?_
  with_reducible refine (spec_l1Own.calls _ _ row4 row4 _ ?side1 ?side2 HO1.out).mono ?_
  (case side1 => exact Kd.C_below HR7.out.2.2 hb48)
  (case side2 => exact HR7.out.2.1)
  rintro e w9 ⟨v46, rfl, ho46, hb46⟩
  refine ⟨_, rfl, ?_⟩
  have hb9 := below_step hb48 hb46
  refine hK.out _ _ ⟨((hb9).cell (World.block_lt_of_cell? _ _ HY7.out)).trans HY7.out, ((hb9).cell (World.block_lt_of_cell? _ _ HC7.out)).trans HC7.out⟩ (fun hHeld => ?_)
  clear hK K
  refine nm 46 (h := ?_)
  exact norm_ (by simp only [putAll, Act.put, List.setIfInBounds_toArray, List.set_cons_zero, List.set_cons_succ]) (hCont (v46, v48) _ ⟨Kd.R_lower ho46 (below_size hb48), Kd.R_below ho48 hb46, hb9⟩)
 rintro ⟨v46, v48⟩ w9 ⟨hR46, hR48, hb9⟩
 refine norm_ (a' := ?_) ?_ ?_
 rotate_left
 ·simp only [putAll, Act.put, List.setIfInBounds_toArray, List.set_cons_zero, List.set_cons_succ]
  rfl
 have H46 := Aside0.mk hR46
 have H48 := Aside0.mk hR48
 have H9 := Aside0.mk hb9
 clear hR46 hR48 hb9
 obtain ⟨A48, c48, e48⟩ := Kd.R_slice H48.out
 subst e48
 refine on 11 (some 49) (bx 14 4095) (h := fun K hK => ?_)
 refine Kd.R_append_rows_step (Kd.int .i64) (w0 := w7) w7.heap.size (by rfl) (.tmp 46) (.tmp 48) 30 3 (.int .i64 0) 8 rfl Try.underlying30 info3 rfl (by decide) (by omega) v46 row4 [x] _ _ _ (fun _ => True) (fun _ => False) rfl rfl ?aO ?aR (fun _ _ h => h) (fun _ h => h.elim) ?aF ?aB ?aS ?aL ?_
 (case aR => exact (Kd.R_reads' H48.out).2.2)
 (case aB => exact H9.out)
 (case aF => exact fun _ _ => trivial)
 (case aO => exact H46.out)
 (case aS => exact below_size H9.out)
 (case aL => simp; omega)
 intro v49 w10 ho hb hg hat
 rw [← HR6.out] at ho
 obtain ⟨A10, c10, rfl⟩ := Kd.R_slice ho
 obtain ⟨hcz10, hfz10, hS10⟩ := HSt7.out w10 _ row5 hb (Kd.R_mono (Kd.R_lower (Kd.R_bound ho) (below_size HB7.out)) (fun k hk => Or.inr ⟨trivial, hk.2.1⟩))
 rw [← HR4.out] at hcz10
 have HS10 := Aside0.mk hS10
 have BY10 := Aside0.mk (blk_far (p := ⟨gt, t, none⟩) (blk_below BY7.out hb) NYT.out (.slice A10 row5.length c10))
 have BR10 := Aside0.mk (blk_far (p := ⟨gt, t, none⟩) (blk_below BR7.out hb) NGR.out (.slice A10 row5.length c10))
 have HB10 := Aside0.mk (below_set (below_step HB7.out hb) HG.out (j := t) (v := .slice A10 row5.length c10))
 have hyd10 : w10.cell? ⟨gy, 0, none⟩ = some (.slice (some ⟨gt, 0, none⟩) tab.length cap) := (hb.cell (World.block_lt_of_cell? _ _ HY7.out)).trans HY7.out
 clear hS10 ho hb hg hat
 refine hK.out _ _ ⟨hyd10, hcz10⟩ (fun hHeld => ?_)
 clear hK K
 refine nm 49 (h := ?_)
 refine pu 12 (some 50) (bx 14 8191) (h := ?_)
 refine last_ (i := 13) (N := none) #[true, true, true, true, true, true, true, true, true, true, true, true, true, true] rfl rfl (one_of HT_.out (by kernel_rfl)) (by decide) (fun K hK => ?_)
 refine skip_ (w1 := ?_) (by rfl) rfl ?_ ?_
 rotate_left
 ·go_simp
  rfl
 refine hK.out _ _ ?_
 clear hK K
 refine done_ (done_of HT_.out (by kernel_rfl)) ?_
 clear hyd10 hcz10 hfz10 hHeld HT_ HW_
 generalize w10.setCell ⟨gt, t, none⟩ (.slice A10 row5.length c10) = w11 at HS10 BY10 BR10 HB10 ⊢
 have hyd11 : w11.cell? ⟨gy, 0, none⟩ = some (.slice (some ⟨gt, 0, none⟩) tab.length cap) := (blk_cell BY10.out 0).trans rfl
 have hcr11 : w11.cell? ⟨gr, 0, none⟩ = some (.slice none 0 0) := (blk_cell BR10.out 0).trans rfl
 have hfr11 := blk_frozen BR10.out 0
 go_wp2
 refine bodyPost_ret (results_cell_row rfl _ _ gr 26 #[.slice (some ⟨gt, 0, none⟩) tab.length cap] (0, 0) _ rfl (blk_put BR10.out 0 _ rfl) Try.underlying26 rfl (by kernel_rfl)) rfl ?_
 have e1 : l5Cut tab f = tab1 := by
   unfold l5Cut
   rw [← HRow.out, show row.length - 1 = m by have := HM.out; omega]
   exact HT1.out.symm
 have e2 : l5Mv tab f t = tab1.set t row5 := by
   unfold l5Mv
   rw [e1, ← HX.out, HR6.out, HR4.out]
 rw [e2]
 exact ⟨_, rfl, Kd.S_set HS10.out BR10.out (by decide) 0 _, below_set HB10.out GR.out⟩
end Go.Proofs.Ytemildnlfjijmaa.P
