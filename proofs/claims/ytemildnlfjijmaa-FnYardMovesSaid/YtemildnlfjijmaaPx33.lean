-- Written by a program of this session over the translation (a variant of the printer, see wip/gen); Lean checks it.
import Derived.Test.YtemildnlfjijmaaVC
import Derived.Test.YtemildnlfjijmaaPx0
import Derived.Test.YtemildnlfjijmaaPx1
import Derived.Test.YtemildnlfjijmaaPx9
import Derived.Test.YtemildnlfjijmaaPx17
import Derived.Test.YtemildnlfjijmaaPx21
import Derived.Test.YtemildnlfjijmaaPx22
import Derived.Test.YtemildnlfjijmaaPx24
import Derived.Test.YtemildnlfjijmaaPx31
import Derived.Test.YtemildnlfjijmaaPx32
import Derived.Test.YtemildnlfjijmaaU
namespace Go.Proofs.Ytemildnlfjijmaa.P
open Go.RowKit Go.Proofs.YtemildnlfjijmaaW.PrintWords Go.Proofs.YtemildnlfjijmaaW.PrintLast Go.Proofs.YtemildnlfjijmaaW.PrintMore
attribute [local go_sem] Go.Proofs.Ytemildnlfjijmaa.V.isSome_setCell max2_int min2_int max_two min_two max_three min_three max_four min_four
set_option linter.unusedVariables false
set_option linter.unusedSimpArgs false
/-! ### laws_FnYardMoves: function 3 -/
--LAWHAND
theorem ym_atRow {w : World} {A : Option Addr} {n : Nat} {xs : List (List Int)} (h : Kd.C (Kd.slice 3 (Kd.int .i64)) w A n xs) (i : Nat) (h1 : i < n) : ∃ ad A0 c0, A = some ad ∧ w.cell? (ad.add i) = some (.slice A0 (xs.getD i []).length c0) ∧ (xs.getD i []).length ≤ c0 ∧ Kd.C (Kd.int .i64) w A0 (xs.getD i []).length (xs.getD i []) := by
 obtain ⟨ad, c, e, _, hK, hc0⟩ := Kd.C_get h ([] : List Int) (i : Int) (by omega) (by omega)
 have hc : ∀ j u, c[j]? = some u → w.cell? (ad.add ((i : Int).toNat * 1 + j)) = some u := hc0
 obtain ⟨A0, c0, rfl, l0, g0⟩ := hK
 have hq := hc 0 _ rfl
 rw [Nat.mul_one, Nat.add_zero, Int.toNat_natCast] at hq
 exact ⟨ad, A0, c0, e, hq, l0, g0⟩
/-- An element of a table of the call's own: its row, and the table with a grown row stored back. -/
theorem ym_elem {W : World} {base gt n cap : Nat} {ok : Nat → Prop} {tab : List (List Int)} (h : Kd.S (Kd.slice 3 (Kd.int .i64)) 30 W base ok (.slice (some ⟨gt, 0, none⟩) n cap) tab) (t : Nat) (ht : t < tab.length) :
    ∃ A0 c0 oki, W.cell? ⟨gt, t, none⟩ = some (.slice A0 (tab.getD t []).length c0) ∧ Kd.R (Kd.int .i64) 3 W base oki (.slice A0 (tab.getD t []).length c0) (tab.getD t []) ∧ (∀ k, oki k → ok k ∧ k ≠ gt) ∧
      ∀ (W1 : World) (v1 : Value) (y : List Int), W.grownBy W1 (Value.slice A0 (tab.getD t []).length c0).ownBlock → Kd.R (Kd.int .i64) 3 W1 base (fun k => oki k ∨ ok k ∧ W.heap.size ≤ k) v1 y →
        W1.cell? ⟨gt, t, none⟩ = some (.slice A0 (tab.getD t []).length c0) ∧ W1.frozen? ⟨gt, t, none⟩ = false ∧ Kd.S (Kd.slice 3 (Kd.int .i64)) 30 (W1.setCell ⟨gt, t, none⟩ v1) base ok (.slice (some ⟨gt, 0, none⟩) n cap) (tab.set t y) := by
 have hn := (Kd.S_reads' h).1
 obtain ⟨ad, A0, c0, eA, hcell, hcr, hCr⟩ := ym_atRow (Kd.S_reads' h).2.2 t ht
 injection eA with eA
 subst eA
 obtain ⟨oki, c, hcl, hM, hcc, _, hoki, hH⟩ := Kd.S_elem h [] (t : Int) (by omega) (by omega)
 obtain ⟨v, rfl, hR⟩ := hM
 have hv := hcc 0 v rfl
 rw [show (Kd.slice 3 (Kd.int .i64)).sz = 1 from rfl, Nat.mul_one, Nat.add_zero, Int.toNat_natCast] at hv
 have hadd : (⟨gt, 0, none⟩ : Addr).add t = ⟨gt, t, none⟩ := by unfold Addr.add; split <;> simp_all
 rw [hadd] at hcell
 rw [hcell] at hv
 injection hv with hv
 subst hv
 rw [Int.toNat_natCast] at hR
 refine ⟨A0, c0, oki, hcell, hR, hoki, fun W1 v1 y hg hR1 => ?_⟩
 have hH1 := Kd.H_grown (Kd.H_widen hH) hg (fun k e_ => .inl (hR.1 k e_))
 obtain ⟨hc1, hf1⟩ := Kd.H_at hH1 (by omega) (by omega)
 have hc1 := hc1 0 _ rfl
 have hf1 := hf1 0
 have hs := (Kd.S_seg0 hH1 (by omega) (by omega) (seg := [v1]) (j := 0) (Nat.le_refl 1) (x' := y) (Kd.M_row hR1) (fun _ hk => hk)).1
 rw [show (Kd.slice 3 (Kd.int .i64)).sz = 1 from rfl, Nat.mul_one, Nat.add_zero, Int.toNat_natCast] at hc1 hf1 hs
 exact ⟨hc1, hf1, hs⟩
/-- A yard in a box of its own. -/
def YxS (w W : World) (g : Nat) (A : Option Addr) (c : Nat) (l : List (List Int)) : Prop := W.heap[g]? = some (.cells #[.slice A l.length c] 26 (0, 0)) ∧ w.heap.size ≤ g ∧ Kd.S (Kd.slice 3 (Kd.int .i64)) 30 W w.heap.size (fun _ => True) (.slice A l.length c) l
theorem YxS.below {w W W1 : World} {g : Nat} {A : Option Addr} {c : Nat} {l : List (List Int)} (hx : YxS w W g A c l) (hb : Below W.heap.size W W1) : YxS w W1 g A c l := ⟨blk_below hx.1 hb, hx.2.1, Kd.S_below hx.2.2 hb⟩
theorem YxS.new {w W : World} {A : Option Addr} {c : Nat} {l : List (List Int)} (hb : Below w.heap.size w W) (ho : Kd.S (Kd.slice 3 (Kd.int .i64)) 30 W w.heap.size (fun _ => True) (.slice A l.length c) l) : YxS w (W.alloc (.cells #[.slice A l.length c] 26 (0, 0))) W.heap.size A c l := ⟨blk_new _ _, hb.size, Kd.S_alloc ho _⟩
theorem YxS.cell {w W : World} {g : Nat} {A : Option Addr} {c : Nat} {l : List (List Int)} (hx : YxS w W g A c l) : W.cell? ⟨g, 0, none⟩ = some (.slice A l.length c) := (blk_cell hx.1 0).trans rfl
theorem YxS.reads {w W : World} {g : Nat} {A : Option Addr} {c : Nat} {l : List (List Int)} (hx : YxS w W g A c l) : Kd.C (Kd.slice 3 (Kd.int .i64)) W A l.length l ∧ l.length ≤ c := ⟨(Kd.S_reads' hx.2.2).2.2, (Kd.S_reads' hx.2.2).2.1⟩
theorem ym_atInt {w : World} {A : Option Addr} {n : Nat} {xs : List Int} (h : Kd.C (Kd.int .i64) w A n xs) (i : Nat) (h1 : i < n) : ∃ ad, A = some ad ∧ w.cell? (ad.add i) = some (.int .i64 (xs.getD i 0)) := by
 obtain ⟨ad, c, e, _, hK, hc0⟩ := Kd.C_get h (0 : Int) (i : Int) (by omega) (by omega)
 have hc : ∀ j u, c[j]? = some u → w.cell? (ad.add ((i : Int).toNat * 1 + j)) = some u := hc0
 have hK2 : c = [.int .i64 (xs.getD (i : Int).toNat 0)] := hK
 subst hK2
 have hq := hc 0 _ rfl
 rw [Nat.mul_one, Nat.add_zero, Int.toNat_natCast] at hq
 exact ⟨ad, e, hq⟩
theorem ym_find (k : Nat) (A : Option Addr) (n c : Nat) (tab : List (List Int)) (A1 : Option Addr) (c1 : Nat) (l1 : List S71) (a2 : Int) (r1 : List S73) (r2 : Bool) (w : World) (hn : tab.length = n) (h0 : Kd.C (Kd.slice 3 (Kd.int .i64)) w A tab.length tab) (hc : tab.length ≤ c) (h1 : Kd.C k71 w A1 l1.length l1) (hc1 : l1.length ≤ c1) (h : impl_YardFindings.f k tab l1 a2 = some (r1, r2)) :
    Calls Try.prog 9 #[.agg #[.slice A n c], .slice A1 l1.length c1, .int .i64 a2] w fun e w' => ∃ v0_ : Value, e = .returned (.tuple #[v0_, .bool r2]) ∧ Kd.R k73 73 w' w.heap.size (fun _ => True) v0_ r1 ∧ Below w.heap.size w w' := by
 subst hn
 exact impl_YardFindings.calls k A c tab A1 c1 l1 a2 r1 r2 w h0 hc h1 hc1 h
/-- What the law's walk asks. -/
def laws_FnYardMoves.Ok (k : Nat) (c : List Int) : Prop := laws_rBig.f c = some true ∨ (laws_rBig.f c = some false ∧ ∃ y ls pl n, spec_DrawAllowedStacks.f k c = some (y, ls, pl, n) ∧ ∃ st ok, impl_AllowedStacks.f k y ls pl n = some (st, ok) ∧ spec_AllowedStacks.f k y ls pl n = some (st, ok) ∧ laws_rInts.f k st st = some true ∧
  (y.length < 1000 ∧ (∀ x, x ∈ y → x.length < 1000) ∧ st.length < 1000) ∧
  (∀ j, j < st.length → ∃ s : Nat, st.getD j 0 = (s : Int) ∧ s < y.length ∧ ∃ fa fb, impl_YardFindings.f k y ls pl = some (fa, true) ∧ impl_YardFindings.f k (y.set s (y.getD s [] ++ [n])) ls pl = some (fb, true) ∧ fa.length = fb.length) ∧
  ∃ z zs q, spec_DrawHelpfulMoves.f k c = some (z, zs, q) ∧ ∃ mv fine, impl_HelpfulMoves.f k z zs q = some (mv, fine) ∧ spec_HelpfulMoves.f k z zs q = some (mv, fine) ∧ laws_rTable.f k mv mv = some true ∧ ∃ kp td, impl_KeepsYardRules.f k z zs q = some (kp, td) ∧ (td = true → kp = true → mv = []))
def laws_FnYardMoves.T15 : Bool × List (List Nat × List Nat) := (true, [([], []), ([0], [0]), ([], []), ([], []), ([3], [3]), ([], []), ([4, 5], [4, 5]), ([6], [6]), ([2, 7], [2, 7]), ([8], [8]), ([1, 9, 8], [1, 9]), ([0, 1, 2, 3, 4, 5, 6, 7, 8, 9, 10], []), ([11, 10, 10, 0, 1, 2, 3, 4, 5, 6, 7, 8, 9, 10], [10, 11])])
def laws_FnYardMoves.B15 : List Nat := [0, 1, 0, 0, 8, 0, 56, 120, 252, 508, 1023, 2047, 4095]
theorem laws_FnYardMoves.tab15 : rtab .any (opsOf Try.f3 15) = laws_FnYardMoves.T15 := by kernel_rfl
theorem laws_FnYardMoves.bits15 : waitsOk laws_FnYardMoves.T15.2 laws_FnYardMoves.B15 = true := by kernel_rfl
def laws_FnYardMoves.T16 : Bool × List (List Nat × List Nat) := (true, [([], []), ([0], [0]), ([], []), ([], []), ([2, 3], [2, 3]), ([4], [4]), ([], []), ([6], [6]), ([], []), ([], []), ([8, 9], [8, 9]), ([10], [10]), ([7, 11], [7, 11]), ([12], [12]), ([], []), ([14], [14]), ([13, 15], [13, 15]), ([1, 5, 0, 1, 2, 3, 4, 5, 6, 7, 8, 9, 10, 11, 12, 13, 14, 15, 16], [1, 5]), ([17, 16, 16, 0, 1, 2, 3, 4, 5, 6, 7, 8, 9, 10, 11, 12, 13, 14, 15, 16], [16, 17])])
def laws_FnYardMoves.B16 : List Nat := [0, 1, 0, 0, 12, 28, 0, 64, 0, 0, 768, 1792, 4032, 8128, 0, 16384, 65472, 131071, 262143]
theorem laws_FnYardMoves.tab16 : rtab .any (opsOf Try.f3 16) = laws_FnYardMoves.T16 := by kernel_rfl
theorem laws_FnYardMoves.bits16 : waitsOk laws_FnYardMoves.T16.2 laws_FnYardMoves.B16 = true := by kernel_rfl
set_option maxHeartbeats 8000000 in
set_option maxRecDepth 100000 in
theorem laws_FnYardMoves.walks (k : Nat) (A0 : Option Addr) (c0 : Nat) (l0 : List Int) (w : World) (hr0 : Kd.C (Kd.int .u8) w A0 l0.length l0) (hc0 : l0.length ≤ c0) (hbig : laws_rBig.f l0 = some false) (y : List (List Int)) (ls : List S71) (pl n : Int) (h1 : spec_DrawAllowedStacks.f k l0 = some (y, ls, pl, n)) (st : List Int) (ok : Bool) (h2 : impl_AllowedStacks.f k y ls pl n = some (st, ok)) (h3 : spec_AllowedStacks.f k y ls pl n = some (st, ok)) (h4 : laws_rInts.f k st st = some true) (h5 : y.length < 1000 ∧ (∀ x, x ∈ y → x.length < 1000) ∧ st.length < 1000)
    (h6 : ∀ j, j < st.length → ∃ s : Nat, st.getD j 0 = (s : Int) ∧ s < y.length ∧ ∃ fa fb, impl_YardFindings.f k y ls pl = some (fa, true) ∧ impl_YardFindings.f k (y.set s (y.getD s [] ++ [n])) ls pl = some (fb, true) ∧ fa.length = fb.length) (z : List (List Int)) (zs : List S71) (q : Int) (h7 : spec_DrawHelpfulMoves.f k l0 = some (z, zs, q)) (mv : List (List Int)) (fine : Bool) (h8 : impl_HelpfulMoves.f k z zs q = some (mv, fine)) (h9 : spec_HelpfulMoves.f k z zs q = some (mv, fine)) (h10 : laws_rTable.f k mv mv = some true) (kp td : Bool) (h11 : impl_KeepsYardRules.f k z zs q = some (kp, td)) (h12 : td = true → kp = true → mv = []) :
    Calls Try.prog 3 #[.slice A0 l0.length c0] w fun e w' => e = .returned (.bool true) ∧ Below w.heap.size w w' := by
 have hu := Try.underlying26
 have HR0 := Aside0.mk hr0
 have HC0 := Aside0.mk hc0
 have B0 := Aside0.mk hbig
 have A1 := Aside0.mk h1
 have A2 := Aside0.mk h2
 have A3 := Aside0.mk h3
 have A4 := Aside0.mk h4
 have A5 := Aside0.mk h5
 have A6 := Aside0.mk h6
 have A7 := Aside0.mk h7
 have A8 := Aside0.mk h8
 have A9 := Aside0.mk h9
 have A10 := Aside0.mk h10
 have A11 := Aside0.mk h11
 have A12 := Aside0.mk h12
 clear hr0 hc0 hbig h1 h2 h3 h4 h5 h6 h7 h8 h9 h10 h11 h12
 go_enter Try.func3, Try.ntmps3
 go_upto_region 4 with (first | (go_at_call 4; refine (laws_rBig.calls A0 c0 l0 false _ HR0.out HC0.out B0.out).mono ?_; rintro e w1 ⟨rfl, hd⟩; have HB1 := Aside0.mk hd.below; clear hd) | (go_at_call 5; refine (spec_DrawAllowedStacks.calls k A0 c0 l0 y ls pl n _ (Kd.C_below HR0.out HB1.out) HC0.out A1.out).mono ?_; rintro e w2 ⟨v, v', rfl, ho, ho', hb⟩; have HO2 := Aside0.mk (Kd.S_lower ho HB1.out.size); have HL2 := Aside0.mk (Kd.R_lower ho' HB1.out.size); have HB2 := Aside0.mk (below_step HB1.out hb); clear ho ho' hb HB1; obtain ⟨Av, cv, ev⟩ := Kd.S_slice HO2.out; subst ev; obtain ⟨Al, cl, el⟩ := Kd.R_slice HL2.out; subst el))
 have Y3 := Aside0.mk (YxS.new HB2.out HO2.out)
 have HL3 := Aside0.mk (Kd.R_alloc HL2.out (.cells #[.slice Av y.length cv] 26 (0, 0)))
 have HB3 := Aside0.mk (below_alloc HB2.out (.cells #[.slice Av y.length cv] 26 (0, 0)))
 clear HO2 HB2 HL2
 generalize w2.alloc (.cells #[.slice Av y.length cv] 26 (0, 0)) = w2b at Y3 HL3 HB3 ⊢
 generalize w2.heap.size = gy at Y3 ⊢
 have hb0 := Y3.out.cell
 go_upto_region 5 with (go_at_call 6; refine (impl_AllowedStacks.calls k Av cv y Al cl ls pl n st ok _ Y3.out.reads.1 Y3.out.reads.2 (Kd.R_reads' HL3.out).2.2 (Kd.R_reads' HL3.out).2.1 A2.out).mono ?_; rintro e w4 ⟨v, rfl, ho, hb⟩; have HT4 := Aside0.mk (Kd.R_lower ho HB3.out.size); have HB4 := Aside0.mk (below_step HB3.out hb); have Y4 := Aside0.mk (Y3.out.below hb); have HL4 := Aside0.mk (Kd.R_below HL3.out hb); clear ho hb Y3 HB3 HL3 hb0; obtain ⟨At, ct, et⟩ := Kd.R_slice HT4.out; subst et)
 have hb0 := Y4.out.cell
 go_upto_region 6 with (go_at_call 7; refine (spec_AllowedStacks.calls k Av cv y Al cl ls pl n st ok _ Y4.out.reads.1 Y4.out.reads.2 (Kd.R_reads' HL4.out).2.2 (Kd.R_reads' HL4.out).2.1 A3.out).mono ?_; rintro e w5 ⟨v, rfl, ho, hb⟩; have HW5 := Aside0.mk (Kd.R_lower ho HB4.out.size); have HB5 := Aside0.mk (below_step HB4.out hb); have Y5 := Aside0.mk (Y4.out.below hb); have HL5 := Aside0.mk (Kd.R_below HL4.out hb); have HT5 := Aside0.mk (Kd.R_below HT4.out hb); clear ho hb Y4 HB4 HL4 HT4 hb0; obtain ⟨Aw, cw, ew⟩ := Kd.R_slice HW5.out; subst ew)
 go_upto_region 8 with (go_at_call 8; refine (laws_rInts.calls k At ct st Aw cw st true _ (Kd.R_reads' HT5.out).2.2 (Kd.R_reads' HT5.out).2.1 (Kd.R_reads' HW5.out).2.2 (Kd.R_reads' HW5.out).2.1 A4.out).mono ?_; rintro e w6 ⟨rfl, hd⟩; have hb := hd.below; have HB6 := Aside0.mk (below_step HB5.out hb); have Y6 := Aside0.mk (Y5.out.below hb); have HL6 := Aside0.mk (Kd.R_below HL5.out hb); have HT6 := Aside0.mk (Kd.R_below HT5.out hb); clear hd hb Y5 HB5 HL5 HT5 HW5)
 go_wp2
 go_loopw [11] (fun v11 wr => ∃ (j : Nat), v11 = .int .i64 (j : Int) ∧ Aside0 (j ≤ st.length) ∧ Aside0 (YxS w wr gy Av cv y) ∧ Aside0 (Kd.R k71 71 wr w.heap.size (fun _ => True) (.slice Al ls.length cl) ls) ∧ Aside0 (Kd.R (Kd.int .i64) 3 wr w.heap.size (fun _ => True) (.slice At st.length ct) st) ∧ Aside0 (Below w.heap.size w wr)) (fun v11 wr => st.length - (intOf v11).toNat)
 case atStart => exact ⟨0, rfl, ⟨Nat.zero_le _⟩, Y6, HL6, HT6, HB6⟩
 clear Y6 HL6 HT6 HB6
 obtain ⟨j, rfl, HLe, Y7, HL7, HT7, HB7⟩ := hrel
 rename World => wr
 have hLl : st.length ≤ 9223372036854775807 := by have := A5.out.2.2; omega
 by_cases hlt : j < st.length
 rotate_left
 ·have hltb : decide (j < st.length) = false := decide_eq_false hlt
  have hlti : ¬ (j : Int) < (st.length : Int) := by omega
  clear hLl hlt
  go_upto_region 22 with (go_at_call 10; refine (spec_DrawHelpfulMoves.calls k A0 c0 l0 z zs q _ (Kd.C_below HR0.out HB7.out) HC0.out A7.out).mono ?_; rintro e w20 ⟨v, v', rfl, ho, ho', hb⟩; have HO20 := Aside0.mk (Kd.S_lower ho HB7.out.size); have HL20 := Aside0.mk (Kd.R_lower ho' HB7.out.size); have HB20 := Aside0.mk (below_step HB7.out hb); clear ho ho' hb HB7 Y7 HL7 HT7; obtain ⟨Az, cz, ez⟩ := Kd.S_slice HO20.out; subst ez; obtain ⟨Am, cm, em⟩ := Kd.R_slice HL20.out; subst em)
  have Z1 := Aside0.mk (YxS.new HB20.out HO20.out)
  have HM1 := Aside0.mk (Kd.R_alloc HL20.out (.cells #[.slice Az z.length cz] 26 (0, 0)))
  have HB21 := Aside0.mk (below_alloc HB20.out (.cells #[.slice Az z.length cz] 26 (0, 0)))
  clear HO20 HB20 HL20
  generalize w20.alloc (.cells #[.slice Az z.length cz] 26 (0, 0)) = w20b at Z1 HM1 HB21 ⊢
  generalize w20.heap.size = gz at Z1 ⊢
  have hz0 := Z1.out.cell
  go_upto_region 23 with (go_at_call 11; refine (impl_HelpfulMoves.calls k Az cz z Am cm zs q mv fine _ Z1.out.reads.1 Z1.out.reads.2 (Kd.R_reads' HM1.out).2.2 (Kd.R_reads' HM1.out).2.1 A8.out).mono ?_; rintro e w22 ⟨v, rfl, ho, hb⟩; have HV2 := Aside0.mk (Kd.S_lower ho HB21.out.size); have HB22 := Aside0.mk (below_step HB21.out hb); have Z2 := Aside0.mk (Z1.out.below hb); have HM2 := Aside0.mk (Kd.R_below HM1.out hb); clear ho hb Z1 HB21 HM1 hz0; obtain ⟨Ax, cx, ex⟩ := Kd.S_slice HV2.out; subst ex)
  have hz0 := Z2.out.cell
  go_upto_region 24 with (go_at_call 12; refine (spec_HelpfulMoves.calls k Az cz z Am cm zs q mv fine _ Z2.out.reads.1 Z2.out.reads.2 (Kd.R_reads' HM2.out).2.2 (Kd.R_reads' HM2.out).2.1 A9.out).mono ?_; rintro e w23 ⟨v, rfl, ho, hb⟩; have HU3 := Aside0.mk (Kd.S_lower ho HB22.out.size); have HB23 := Aside0.mk (below_step HB22.out hb); have Z3 := Aside0.mk (Z2.out.below hb); have HM3 := Aside0.mk (Kd.R_below HM2.out hb); have HV3 := Aside0.mk (Kd.S_below HV2.out hb); clear ho hb Z2 HB22 HM2 HV2 hz0; obtain ⟨Au, cu, eu⟩ := Kd.S_slice HU3.out; subst eu)
  go_upto_region 26 with (go_at_call 13; refine (laws_rTable.calls k Ax cx mv Au cu mv true _ (Kd.S_reads' HV3.out).2.2 (Kd.S_reads' HV3.out).2.1 (Kd.S_reads' HU3.out).2.2 (Kd.S_reads' HU3.out).2.1 A10.out).mono ?_; rintro e w24 ⟨rfl, hd⟩; have hb := hd.below; have HB24 := Aside0.mk (below_step HB23.out hb); have Z4 := Aside0.mk (Z3.out.below hb); have HM4 := Aside0.mk (Kd.R_below HM3.out hb); clear hd hb Z3 HB23 HM3 HV3 HU3)
  have hz0 := Z4.out.cell
  go_upto_region 27 with (go_at_call 14; refine (impl_KeepsYardRules.calls k Az cz z Am cm zs q kp td _ Z4.out.reads.1 Z4.out.reads.2 (Kd.R_reads' HM4.out).2.2 (Kd.R_reads' HM4.out).2.1 A11.out).mono ?_; rintro e w25 ⟨rfl, hb⟩; have HB25 := Aside0.mk (below_step HB24.out hb); clear hb Z4 HB24 HM4 hz0)
  have hmv : td = true → kp = true → decide (0 < mv.length) = false := fun a b => by rw [A12.out a b]; rfl
  cases td with
  | false =>
   clear hmv
   go_wp2
   go_ret
   exact ⟨rfl, HB25.out⟩
  | true =>
   cases kp with
   | false =>
    clear hmv
    go_wp2
    go_ret
    exact ⟨rfl, HB25.out⟩
   | true =>
    have hm0 := A12.out rfl rfl
    subst hm0
    clear hmv
    go_wp2
    go_ret
    exact ⟨rfl, HB25.out⟩
 have hltb : decide (j < st.length) = true := decide_eq_true hlt
 have hlti : (j : Int) < (st.length : Int) := by omega
 have hwj : IntKind.i64.wrap ((j : Int) + 1) = ((j + 1 : Nat) : Int) := (i64_w _).trans (Go.Proofs.Ytemildnlfjijmaa.U.wsucc hlt hLl)
 have HLt := Aside0.mk hlt
 obtain ⟨s, hs, hsy, fa, fb, hfa, hfb, hfl⟩ := A6.out j hlt
 have AS := Aside0.mk hs
 have ASy := Aside0.mk hsy
 have AFa := Aside0.mk hfa
 have AFb := Aside0.mk hfb
 have AFl := Aside0.mk hfl
 clear hs hsy hfa hfb hfl hlt hLl
 go_upto_region 12 with (first | ((with_reducible refine gate_dst (N := 67) rfl ?_); refine Kd.S_lit (Kd.slice 3 (Kd.int .i64)) _ 30 ?hg (N := 67) ?hd (xs := ([] : List (List Int))) (inner := []) (ok := fun _ => True) (okp := fun _ => True) ?hr ?hp (fun _ hk => hk) trivial (Below.refl _ _) (Nat.le_refl _) (by simp) ?_; (case hd | hg => rfl); (case hr => go_simp); (case hp => exact (Reps.none _ _)); intro v9 w9 ho hb hg_ hnew_; have HN9 := Aside0.mk ho; have HB9 := Aside0.mk hb; clear ho hb hg_ hnew_; obtain ⟨An, cn, en⟩ := Kd.S_slice HN9.out; subst en))
 have X9 := Aside0.mk (show YxS wr (w9.alloc (.cells #[.slice An 0 cn] 26 (0, 0))) w9.heap.size An cn [] from YxS.new HB9.out HN9.out)
 have HB10 := Aside0.mk (below_alloc HB9.out (.cells #[.slice An 0 cn] 26 (0, 0)))
 clear HN9 HB9
 generalize w9.alloc (.cells #[.slice An 0 cn] 26 (0, 0)) = w10 at X9 HB10 ⊢
 generalize w9.heap.size = gx at X9 ⊢
 go_wp2
 go_loopw [13] (fun v13 wi => ∃ (t : Nat) (A : Option Addr) (c : Nat), v13 = .int .i64 (t : Int) ∧ Aside0 (t ≤ y.length) ∧ Aside0 (YxS wr wi gx A c (y.take t)) ∧ Aside0 (Below wr.heap.size wr wi)) (fun v13 wi => y.length - (intOf v13).toNat)
 case atStart => exact ⟨0, An, cn, rfl, ⟨Nat.zero_le _⟩, X9, HB10⟩
 clear X9 HB10
 obtain ⟨t, An, cn, rfl, HTl, NX, HBi⟩ := hrel
 rename World => wi
 have hyl : y.length ≤ 9223372036854775807 := by have := A5.out.1; omega
 have hy0 := (Y7.out.below HBi.out).cell
 by_cases hty : t < y.length
 rotate_left
 ·have htb : decide (t < y.length) = false := decide_eq_false hty
  have hti : ¬ (t : Int) < (y.length : Int) := by omega
  rw [List.take_of_length_le (show y.length ≤ t by omega)] at NX
  clear hty hyl
  have ht2 : t = y.length := by have := HTl.out; omega
  clear HTl
  subst ht2
  obtain ⟨gt, cap, ev, hgt, _⟩ := Kd.S_form NX.out.2.2 (by have := ASy.out; omega)
  cases ev
  obtain ⟨at_, eat, hst0⟩ := ym_atInt (Kd.R_reads' HT7.out).2.2 j HLt.out
  subst eat
  rw [AS.out] at hst0
  have HEs := Aside0.mk hst0
  have hsi : (s : Int) < (y.length : Int) := by have := ASy.out; omega
  have hsb : decide (s < y.length) = true := decide_eq_true ASy.out
  have hsl : s < y.length := ASy.out
  clear hst0 hgt htb hti
  go_upto_region 16 with (fail)
  clear hy0
  have NXd := Aside0.mk (NX.out.below (below_drew1 (Below.refl _ _)))
  have HBd := Aside0.mk (below_drew1 HBi.out)
  clear NX HBi
  obtain ⟨A5q, c5, oki, hc5, hR5, hok5, hst5⟩ := ym_elem NXd.out.2.2 s hsl
  have HC5 := Aside0.mk hc5
  have HR5 := Aside0.mk hR5
  have HSt5 := Aside0.mk hst5
  have HNe := Aside0.mk (show gx ≠ gt from fun e => Kd.S_ne NXd.out.2.2 NXd.out.1 (by decide) (congrArg some e))
  have HRl := Aside0.mk (show (y.getD s []).length < 1000 from A5.out.2.1 _ (by rw [List.getD_eq_getElem?_getD, List.getElem?_eq_getElem hsl, Option.getD_some]; exact List.getElem_mem hsl))
  obtain ⟨row, hrow⟩ : ∃ r : List Int, r = y.getD s [] := ⟨_, rfl⟩
  rw [← hrow] at HC5 HR5 HSt5 HRl
  obtain ⟨row5, hrow5⟩ : ∃ r : List Int, r = row ++ [n] := ⟨_, rfl⟩
  have HRow5 := Aside0.mk hrow5
  have HFb := Aside0.mk (show impl_YardFindings.f k (y.set s row5) ls pl = some (fb, true) by rw [hrow5, hrow]; exact AFb.out)
  clear hc5 hR5 hok5 hst5 hsl hrow hrow5 AFb
  refine start_ (n := 19) (S := fun w' => w'.cell? ⟨gx, 0, none⟩ = some (.slice (some ⟨gt, 0, none⟩) y.length cn) ∧ w'.cell? (at_.add j) = some (.int .i64 (s : Int)) ∧ w'.cell? ⟨gt, s, none⟩ = some (.slice A5q row.length c5)) (ds := [18]) #[false, false, false, false, false, false, false, false, false, false, false, false, false, false, false, false, false, false, false] (by kernel_rfl) rfl rfl ⟨NXd.out.cell, (HBd.out.cell (World.block_lt_of_cell? _ _ HEs.out)).trans HEs.out, HC5.out⟩ (fun hHeld => ?_)
  refine with_tabW laws_FnYardMoves.tab16 laws_FnYardMoves.bits16 (fun HT_ HW_ => ?_)
  generalize wi.drew = w20 at NXd HBd HC5 HR5 HSt5 hHeld ⊢
  refine pu 0 (some 88) (bx 19 1) (h := ?_)
  refine pu 2 (some 90) (bx 19 5) (h := ?_)
  refine pu 3 (some 91) (bx 19 13) (h := ?_)
  refine pu 6 (some 94) (bx 19 77) (h := ?_)
  refine pu 8 (some 96) (bx 19 333) (h := ?_)
  refine pu 9 (some 97) (bx 19 845) (h := ?_)
  refine pu 14 (some 102) (bx 19 17229) (h := ?_)
  refine tk3 1 (some 89) (bx 19 17231) (h := ?_)
  refine tk3 4 (some 92) (bx 19 17247) (h := ?_)
  refine tk3 5 (some 93) (bx 19 17279) (h := ?_)
  refine tk3 7 (some 95) (bx 19 17407) (h := ?_)
  refine tk3 10 (some 98) (bx 19 18431) (h := ?_)
  refine tk3 11 (some 99) (bx 19 20479) (h := ?_)
  refine tk3 12 (some 100) (bx 19 24575) (h := ?_)
  refine tk3 13 (some 101) (bx 19 32767) (h := ?_)
  refine on 15 (some 103) (bx 19 65535) (h := fun K hK => ?_)
  refine value_ (w1 := ?_) (v := ?_) (by rfl) rfl ?_ ?_
  rotate_left 2
  ·go_simp
   constructor
   ·rfl
   rfl
  refine hK.out _ _ ⟨((below_alloc (Below.refl w20.heap.size w20) _).cell (World.block_lt_of_cell? _ _ NXd.out.cell)).trans NXd.out.cell, ((below_alloc (Below.refl w20.heap.size w20) _).cell (World.block_lt_of_cell? _ _ ((HBd.out.cell (World.block_lt_of_cell? _ _ HEs.out)).trans HEs.out))).trans ((HBd.out.cell (World.block_lt_of_cell? _ _ HEs.out)).trans HEs.out), ((below_alloc (Below.refl w20.heap.size w20) _).cell (World.block_lt_of_cell? _ _ HC5.out)).trans HC5.out⟩ (fun hHeld => ?_)
  clear hK K
  refine nm 103 (h := ?_)
  refine on 16 (some 104) (bx 19 131071) (h := fun K hK => ?_)
  refine Kd.R_append_step (Kd.int .i64) (w0 := wr) wr.heap.size (by rfl) (.tmp 101) (.tmp 103) 30 3 (.int .i64 0) 8 rfl Try.underlying30 info3 rfl (by decide) (by omega) (.slice A5q row.length c5) row n [.int .i64 n] (fun k => oki k ∨ True ∧ w20.heap.size ≤ k) (fun _ => False) rfl rfl ?aP (fun _ hk => hk.elim) ?aF ?aO ?aB ?aS ?aL ?_
  (case aP => exact rfl)
  (case aB => exact HBd.out)
  (case aF => exact fun k hk => Or.inr ⟨trivial, hk⟩)
  (case aO => exact Kd.R_mono HR5.out (fun _ hk => Or.inl hk))
  (case aS => exact HBd.out.size)
  (case aL => have := HRl.out; omega)
  intro v104 w21 ho hb hg hat
  rw [← HRow5.out] at ho
  obtain ⟨A21, c21, rfl⟩ := Kd.R_slice ho
  obtain ⟨hcz8, hfz8, hS8⟩ := HSt5.out w21 _ row5 hg ho
  have hbx := blk_grown NXd.out.1 hg (Kd.R_ne HR5.out NXd.out.1 (by decide))
  have HX22 := Aside0.mk (blk_far (p := ⟨gt, s, none⟩) hbx HNe.out (.slice A21 row5.length c21))
  have HS22 := Aside0.mk hS8
  have HB22 := Aside0.mk (show Below wr.heap.size wr (w21.setCell ⟨gt, s, none⟩ (.slice A21 row5.length c21)) from below_set hb (Kd.S_base NXd.out.2.2 gt rfl))
  have hz8 : w21.cell? ⟨gx, 0, none⟩ = some (.slice (some ⟨gt, 0, none⟩) y.length cn) := (blk_cell hbx 0).trans rfl
  have he8 := (hb.cell (World.block_lt_of_cell? _ _ HEs.out)).trans HEs.out
  clear hS8 ho hb hg hat hbx
  refine hK.out _ _ ⟨hz8, he8, hcz8⟩ (fun hHeld => ?_)
  clear hK K
  refine nm 104 (h := ?_)
  refine pu 17 (some 105) (bx 19 262143) (h := ?_)
  refine last_ (i := 18) (N := none) #[true, true, true, true, true, true, true, true, true, true, true, true, true, true, true, true, true, true, true] rfl rfl (one_of HT_.out (by kernel_rfl)) (by decide) (fun K hK => ?_)
  refine skip_ (w1 := ?_) (by rfl) rfl ?_ ?_
  rotate_left
  ·go_simp
   rfl
  refine hK.out _ _ ?_
  clear hK K
  refine done_ (done_of HT_.out (by kernel_rfl)) ?_
  clear hHeld HT_ HW_ hz8 he8 hcz8 hfz8 NXd HBd HC5 HR5 HSt5
  generalize w21.setCell ⟨gt, s, none⟩ (.slice A21 row5.length c21) = w22 at HX22 HS22 HB22 ⊢
  have hy0 := (Y7.out.below HB22.out).cell
  go_upto_region 18 with (go_at_call 9; refine (impl_YardFindings.calls k Av cv y Al cl ls pl fa true _ (Y7.out.below HB22.out).reads.1 (Y7.out.below HB22.out).reads.2 (Kd.R_reads' (Kd.R_below HL7.out HB22.out)).2.2 (Kd.R_reads' HL7.out).2.1 AFa.out).mono ?_; rintro e w23 ⟨va, rfl, ho, hb⟩; have HFa := Aside0.mk ho; have HX23 := Aside0.mk (blk_below HX22.out hb); have HS23 := Aside0.mk (Kd.S_below HS22.out hb); have HB23 := Aside0.mk (below_step HB22.out hb); clear ho hb HX22 HS22 HB22 hy0; obtain ⟨Aa, ca, ea⟩ := Kd.R_slice HFa.out; subst ea)
  have hx0 : w23.cell? ⟨gx, 0, none⟩ = some (.slice (some ⟨gt, 0, none⟩) y.length cn) := (blk_cell HX23.out 0).trans rfl
  go_upto_region 19 with (go_at_call 9; refine (ym_find k (some ⟨gt, 0, none⟩) y.length cn (y.set s row5) Al cl ls pl fb true _ (List.length_set ..) (Kd.S_reads' HS23.out).2.2 (by rw [← (Kd.S_reads' HS23.out).1]; exact (Kd.S_reads' HS23.out).2.1) (Kd.R_reads' (Kd.R_below HL7.out HB23.out)).2.2 (Kd.R_reads' HL7.out).2.1 HFb.out).mono ?_; rintro e w24 ⟨vb, rfl, ho, hb⟩; have HFc := Aside0.mk ho; have HB24 := Aside0.mk (below_step HB23.out hb); clear ho hb HX23 HS23 HB23 hx0; obtain ⟨Ab, cb, eb⟩ := Kd.R_slice HFc.out; subst eb)
  have hfl2 := AFl.out
  go_upto_region 10 with (fail)
  clear hfl2
  go_wp2
  go_roundw
  case rel => exact ⟨j + 1, by rfl , ⟨HLt.out⟩, ⟨Y7.out.below HB24.out⟩, ⟨Kd.R_below HL7.out HB24.out⟩, ⟨Kd.R_below HT7.out HB24.out⟩, ⟨below_step HB7.out HB24.out⟩⟩
  case measure => (simp [intOf]; omega) 
 have htb : decide (t < y.length) = true := decide_eq_true hty
 have hti : (t : Int) < (y.length : Int) := by omega
 have hwt : IntKind.i64.wrap ((t : Int) + 1) = ((t + 1 : Nat) : Int) := (i64_w _).trans (Go.Proofs.Ytemildnlfjijmaa.U.wsucc hty hyl)
 have HTy := Aside0.mk hty
 obtain ⟨ay, A8, c8, eA, hcell, hl8, hC8⟩ := ym_atRow Y7.out.reads.1 t hty
 subst eA
 have HEl := Aside0.mk hcell
 have HRow := Aside0.mk hC8
 have HRl := Aside0.mk (show (y.getD t []).length < 1000 from A5.out.2.1 _ (by rw [List.getD_eq_getElem?_getD, List.getElem?_eq_getElem hty, Option.getD_some]; exact List.getElem_mem hty))
 obtain ⟨ny, hny⟩ : ∃ l : List (List Int), l = y.take t := ⟨_, rfl⟩
 rw [← hny] at NX
 have HNl := Aside0.mk (show ny.length < 1000 by have := A5.out.1; rw [hny, List.length_take]; omega)
 obtain ⟨nz, hnz⟩ : ∃ l : List (List Int), l = ny ++ [y.getD t []] := ⟨_, rfl⟩
 have HNy := Aside0.mk hnz
 have HNz := Aside0.mk (show nz = y.take (t + 1) by rw [hnz, hny, List.take_add_one, List.getD_eq_getElem?_getD, List.getElem?_eq_getElem hty]; rfl)
 clear hty hcell hC8 hny hnz hyl
 go_upto_region 15 with (fail)
 have NXd := Aside0.mk (NX.out.below (below_drew1 (Below.refl _ _)))
 have HBd := Aside0.mk (below_drew1 HBi.out)
 clear NX HBi hy0
 refine start_ (n := 13) (S := fun w' => w'.cell? ⟨gx, 0, none⟩ = some (.slice An ny.length cn) ∧ w'.cell? ⟨gy, 0, none⟩ = some (.slice (some ay) y.length cv) ∧ w'.cell? (ay.add t) = some (.slice A8 (y.getD t []).length c8)) (ds := [12]) #[false, false, false, false, false, false, false, false, false, false, false, false, false] (by kernel_rfl) rfl rfl ⟨NXd.out.cell, (Y7.out.below HBd.out).cell, (HBd.out.cell (World.block_lt_of_cell? _ _ HEl.out)).trans HEl.out⟩ (fun hHeld => ?_)
 refine with_tabW laws_FnYardMoves.tab15 laws_FnYardMoves.bits15 (fun HT_ HW_ => ?_)
 generalize wi.drew = w15 at NXd HBd hHeld ⊢
 refine pu 0 (some 76) (bx 13 1) (h := ?_)
 refine pu 3 (some 79) (bx 13 9) (h := ?_)
 refine pu 5 (some 81) (bx 13 41) (h := ?_)
 refine tk3 1 (some 77) (bx 13 43) (h := ?_)
 refine tk3 4 (some 80) (bx 13 59) (h := ?_)
 refine tk3 6 (some 82) (bx 13 123) (h := ?_)
 refine tk3 7 (some 83) (bx 13 251) (h := ?_)
 refine on 2 (some 78) (bx 13 255) (h := fun K hK => ?_)
 refine Kd.R_lit_step (Kd.int .i64) _ 3 ?hg (N := 78) ?hd (xs := ([] : List Int)) (inner := []) (ok := fun _ => True) (okp := fun _ => True) ?hr ?hp (fun _ hk => hk) trivial (Below.refl _ _) (Nat.le_refl _) (by simp) ?_; (case hd | hg => rfl); (case hr => go_simp); (case hp => exact (Reps.none _ _))
 intro v78 w16 h5 hb hg_ hnew_
 clear hg_ hnew_
 have NX6 := Aside0.mk (NXd.out.below hb)
 have HB6 := Aside0.mk (below_step HBd.out hb)
 have HV6 := Aside0.mk h5
 have HBx6 := Aside0.mk hb
 have NXk := NXd
 have HBk := HBd
 clear h5 hb NXd HBd
 refine hK.out _ _ ⟨NX6.out.cell, (Y7.out.below HB6.out).cell, (HB6.out.cell (World.block_lt_of_cell? _ _ HEl.out)).trans HEl.out⟩ (fun hHeld => ?_)
 clear hK K
 refine nm 78 (h := ?_)
 refine on 8 (some 84) (bx 13 511) (h := fun K hK => ?_)
 refine Kd.R_append_rows_step (Kd.int .i64) (w0 := w15) w15.heap.size (by rfl) (.tmp 78) (.tmp 83) 30 3 (.int .i64 0) 8 rfl Try.underlying30 info3 rfl (by decide) (by omega) v78 [] (y.getD t []) _ _ _ (fun _ => True) (fun _ => False) rfl rfl ?aO ?aR (fun _ _ h => h) (fun _ h => h.elim) ?aF ?aB ?aS ?aL ?_
 (case aO => exact HV6.out)
 (case aR => exact Kd.C_below HRow.out HB6.out)
 (case aF => exact fun _ _ => trivial)
 (case aB => exact HBx6.out)
 (case aS => exact HBx6.out.size)
 (case aL => have h_ := HRl.out; simp only [List.getD_eq_getElem?_getD, List.length_nil] at h_ ⊢; omega)
 intro v84 w17 ho hb hg hat
 rw [List.nil_append] at ho
 have NX7 := Aside0.mk (show YxS wr w17 gx An cn ny from ⟨blk_below NXk.out.1 hb, NXk.out.2.1, Kd.S_mono (Kd.S_elder' NXk.out.2.2 (Kd.R_base ho) hb) (fun _ _ => trivial)⟩)
 have NS7 := Aside0.mk (Kd.S_elder' NXk.out.2.2 (Kd.R_base ho) hb)
 have HB7i := Aside0.mk (below_step HBk.out hb)
 have HE7 := Aside0.mk (Kd.R_mono (Kd.R_lower ho HBk.out.size) (fun _ _ => trivial))
 clear ho hb hg hat NX6 HB6 HV6 HBx6 NXk HBk
 obtain ⟨A84, c84, e84⟩ := Kd.R_slice HE7.out
 subst e84
 refine hK.out _ _ ⟨NX7.out.cell, (Y7.out.below HB7i.out).cell, (HB7i.out.cell (World.block_lt_of_cell? _ _ HEl.out)).trans HEl.out⟩ (fun hHeld => ?_)
 clear hK K
 refine nm 84 (h := ?_)
 refine on 9 (some 85) (bx 13 1023) (h := fun K hK => ?_)
 refine value_ (w1 := ?_) (v := ?_) (by rfl) rfl ?_ ?_
 rotate_left 2
 ·go_simp
  constructor
  ·rfl
  rfl
 refine hK.out _ _ ⟨(NX7.out.below (below_alloc (Below.refl _ _) (.cells #[.slice A84 (y.getD t []).length c84] 30 (0, 0)))).cell, (Y7.out.below (below_alloc HB7i.out (.cells #[.slice A84 (y.getD t []).length c84] 30 (0, 0)))).cell, ((below_alloc HB7i.out (.cells #[.slice A84 (y.getD t []).length c84] 30 (0, 0))).cell (World.block_lt_of_cell? _ _ HEl.out)).trans HEl.out⟩ (fun hHeld => ?_)
 clear hK K
 refine nm 85 (h := ?_)
 refine on 10 (some 86) (bx 13 2047) (h := fun K hK => ?_)
 refine Kd.S_append_step (Kd.slice 3 (Kd.int .i64)) (w0 := wr) wr.heap.size (by rfl) (.tmp 77) (.tmp 85) 24 30 (.slice none 0 0) 24 rfl Try.underlying24 info30 rfl (by decide) (by omega) (.slice An ny.length cn) ny (y.getD t []) [.slice A84 (y.getD t []).length c84] (fun _ => True) (fun k_ => some k_ = (.slice A84 (y.getD t []).length c84 : Value).ownBlock) rfl rfl ?aP (fun k_ hk_ => ((Kd.R_mono (ok' := fun k_ => ((fun _ => True)) k_ ∧ some k_ ≠ (.slice An ny.length cn : Value).ownBlock) (Kd.R_apart' HE7.out (Kd.S_typed NX7.out.2.2) (by decide)) (fun k_ hk => ⟨trivial, hk.2⟩))).1 k_ hk_.symm) ?aF ?aO ?aB ?aS ?aL ?_
 (case aP => exact Kd.M_row (Kd.R_mono (Kd.R_tight rfl (Kd.R_mono (ok' := fun k_ => ((fun _ => True)) k_ ∧ some k_ ≠ (.slice An ny.length cn : Value).ownBlock) (Kd.R_apart' HE7.out (Kd.S_typed NX7.out.2.2) (by decide)) (fun k_ hk => ⟨trivial, hk.2⟩))) (fun _ h_ => h_)))
 (case aF => exact (fun _ _ => trivial))
 (case aO => exact Kd.S_mono NS7.out (fun k_ hk => ⟨trivial, fun e_ => hk.2 e_⟩))
 (case aB => exact HB7i.out)
 (case aS => exact HB7i.out.size)
 (case aL => have := HNl.out; omega)
 intro v86 w19 ho hb hg hat
 rw [← HNy.out] at ho
 have BX9 := Aside0.mk (blk_grown NX7.out.1 hg (Kd.S_ne NX7.out.2.2 NX7.out.1 (by decide)))
 have GX9 := Aside0.mk NX7.out.2.1
 have HS9 := Aside0.mk ho
 have HB9i := Aside0.mk hb
 clear ho hb hg hat NX7 HB7i HE7
 obtain ⟨A86, c86, e86⟩ := Kd.S_slice HS9.out
 subst e86
 have hz9 : w19.cell? ⟨gx, 0, none⟩ = some (.slice An ny.length cn) := (blk_cell BX9.out 0).trans rfl
 have hf9 := blk_frozen BX9.out 0
 refine hK.out _ _ ⟨hz9, (Y7.out.below HB9i.out).cell, (HB9i.out.cell (World.block_lt_of_cell? _ _ HEl.out)).trans HEl.out⟩ (fun hHeld => ?_)
 clear hK K
 refine nm 86 (h := ?_)
 refine pu 11 (some 87) (bx 13 4095) (h := ?_)
 refine last_ (i := 12) (N := none) #[true, true, true, true, true, true, true, true, true, true, true, true, true] rfl rfl (one_of HT_.out (by kernel_rfl)) (by decide) (fun K hK => ?_)
 refine skip_ (w1 := ?_) (by rfl) rfl ?_ ?_
 rotate_left
 ·go_simp
  rfl
 refine hK.out _ _ ?_
 clear hK K
 refine done_ (done_of HT_.out (by kernel_rfl)) ?_
 clear hHeld HT_ HW_
 go_wp2
 go_roundw
 case rel =>
  refine ⟨t + 1, A86, c86, by rfl , ⟨HTy.out⟩, ⟨?_⟩, ⟨below_set HB9i.out GX9.out⟩⟩
  rw [← HNz.out]
  exact ⟨blk_put BX9.out 0 _ rfl, GX9.out, Kd.S_set HS9.out BX9.out (by decide) 0 _⟩
 case measure => (simp [intOf]; omega) 
set_option maxHeartbeats 8000000 in
set_option maxRecDepth 100000 in
theorem laws_FnYardMoves.calls (k : Nat) (A0 : Option Addr) (c0 : Nat) (l0 : List Int) (w : World) (hr0 : Kd.C (Kd.int .u8) w A0 l0.length l0) (hc0 : l0.length ≤ c0) (H : laws_FnYardMoves.Ok k l0) :
    Calls Try.prog 3 #[.slice A0 l0.length c0] w fun e w' => e = .returned (.bool true) ∧ Below w.heap.size w w' := by
 rcases H with hb | ⟨hb, y, ls, pl, n, h1, st, ok, h2, h3, h4, h5, h6, z, zs, q, h7, mv, fine, h8, h9, h10, kp, td, h11, h12⟩
 ·have B0 := Aside0.mk hb
  have HR0 := Aside0.mk hr0
  have HC0 := Aside0.mk hc0
  clear hb hr0 hc0
  go_enter Try.func3, Try.ntmps3
  go_wp2_with (go_at_call 4; refine (laws_rBig.calls A0 c0 l0 true _ HR0.out HC0.out B0.out).mono ?_; rintro e w1 ⟨rfl, hd⟩; have HB1 := Aside0.mk hd.below; clear hd)
  go_ret
  exact ⟨rfl, HB1.out⟩
 exact laws_FnYardMoves.walks k A0 c0 l0 w hr0 hc0 hb y ls pl n h1 st ok h2 h3 h4 h5 h6 z zs q h7 mv fine h8 h9 h10 kp td h11 h12
/-- THE ONE PURE STATEMENT of laws_FnYardMoves. -/
def laws_FnYardMoves.Pure : Prop := ∀ (l0 : List Int), (l0.length ≤ maxLen ∧ ∀ z647, z647 ∈ l0 → (Lit.int .u8 z647).wf = true) → ∃ k, laws_FnYardMoves.Ok k l0
theorem laws_FnYardMoves.walk (P : laws_FnYardMoves.Pure) (A0 : Option Addr) (c0 : Nat) (l0 : List Int) (w : World) (hr0 : Kd.C (Kd.int .u8) w A0 l0.length l0) (hc0 : l0.length ≤ c0) (g0 : (l0.length ≤ maxLen ∧ ∀ z648, z648 ∈ l0 → (Lit.int .u8 z648).wf = true)) :
    Calls Try.prog 3 #[.slice A0 l0.length c0] w fun e w' => e = .returned (.bool true) ∧ Below w.heap.size w w' := by
 obtain ⟨k, h⟩ := P l0 g0
 refine (laws_FnYardMoves.calls k _ _ l0 w hr0 hc0 h).mono ?_
 rintro e w' ⟨rfl, hd⟩
 exact ⟨rfl, hd⟩
end Go.Proofs.Ytemildnlfjijmaa.P
