-- Written by a program of this session over the translation (a variant of the printer, see wip/gen); Lean checks it.
import Derived.Test.YtemildnlfjijmaaPx0
import Derived.Test.YtemildnlfjijmaaPx10
import Derived.Test.YtemildnlfjijmaaU
import Derived.Test.YtemildnlfjijmaaGM
namespace Go.Proofs.Ytemildnlfjijmaa.P
open Go.RowKit Go.Proofs.YtemildnlfjijmaaW.PrintWords Go.Proofs.YtemildnlfjijmaaW.PrintLast Go.Proofs.YtemildnlfjijmaaW.PrintMore
attribute [local go_sem] Go.Proofs.Ytemildnlfjijmaa.V.isSome_setCell max2_int min2_int max_two min_two max_three min_three max_four min_four
set_option linter.unusedVariables false
set_option linter.unusedSimpArgs false
/-! ### impl_IsValidYard: function 38 -/
/-- A yard is valid: 1 to 6 stacks, none higher than 4, each number from 1 to 99, none twice. -/
def okYard (l : List (List Int)) : Bool := Go.Proofs.Ytemildnlfjijmaa.U.inr (l.length : Int) 1 6 && (Go.Proofs.Ytemildnlfjijmaa.U.chkRows 4 l []).isSome
def impl_IsValidYard.f (l0_0 : List (List Int)) : Option (Bool) := some (okYard l0_0)
theorem impl_within_eq (a b c : Int) : impl_within.f a b c = some (Go.Proofs.Ytemildnlfjijmaa.U.inr a b c) := by
 unfold impl_within.f Go.Proofs.Ytemildnlfjijmaa.U.inr
 by_cases h : b ≤ a <;> simp [h]
theorem impl_IsValidYard.atRow {w : World} {A : Option Addr} {n : Nat} {xs : List (List Int)} (h : Kd.C (Kd.slice 3 (Kd.int .i64)) w A n xs) (i : Nat) (h1 : i < n) : ∃ ad A0 c0, A = some ad ∧ w.cell? (ad.add i) = some (.slice A0 (xs.getD i []).length c0) ∧ (xs.getD i []).length ≤ c0 ∧ Kd.C (Kd.int .i64) w A0 (xs.getD i []).length (xs.getD i []) := by
 obtain ⟨ad, c, e, _, hK, hc0⟩ := Kd.C_get h ([] : List Int) (i : Int) (by omega) (by omega)
 have hc : ∀ j u, c[j]? = some u → w.cell? (ad.add ((i : Int).toNat * 1 + j)) = some u := hc0
 obtain ⟨A0, c0, rfl, l0, g0⟩ := hK
 have hq := hc 0 _ rfl
 rw [Nat.mul_one, Nat.add_zero, Int.toNat_natCast] at hq
 exact ⟨ad, A0, c0, e, hq, l0, g0⟩
theorem impl_IsValidYard.atInt {w : World} {A : Option Addr} {n : Nat} {xs : List Int} (h : Kd.C (Kd.int .i64) w A n xs) (i : Nat) (h1 : i < n) : ∃ ad, A = some ad ∧ w.cell? (ad.add i) = some (.int .i64 (xs.getD i 0)) := by
 obtain ⟨ad, c, e, _, hK, hc0⟩ := Kd.C_get h (0 : Int) (i : Int) (by omega) (by omega)
 have hc : ∀ j u, c[j]? = some u → w.cell? (ad.add ((i : Int).toNat * 1 + j)) = some u := hc0
 have e1 : c = [.int .i64 (xs.getD (i : Int).toNat 0)] := hK
 subst e1
 have hq := hc 0 _ rfl
 rw [Nat.mul_one, Nat.add_zero, Int.toNat_natCast] at hq
 exact ⟨ad, e, hq⟩
theorem impl_IsValidYard.zeroB (w : World) : (zeroValue 4).run Try.prog w = .ok (.bool false) w := by kernel_rfl
theorem impl_IsValidYard.keyed : Go.Maps.Keyed Try.prog 3 := Go.Maps.int_keyed Try.underlying3
set_option maxHeartbeats 8000000 in
set_option maxRecDepth 100000 in
theorem impl_IsValidYard.calls (A0_0 : Option Addr) (c0_0 : Nat) (l0_0 : List (List Int)) (r : Bool) (w : World) (hr0_0 : Kd.C (Kd.slice 3 (Kd.int .i64)) w A0_0 l0_0.length l0_0) (hc0_0 : l0_0.length ≤ c0_0) (h : impl_IsValidYard.f l0_0 = some r) :
    Calls Try.prog 38 #[.agg #[.slice A0_0 l0_0.length c0_0]] w fun e w' => e = .returned (.bool r) ∧ Below w.heap.size w w' := by
 have hln : l0_0.length ≤ 9223372036854775807 := hr0_0.2.1
 have HR := Aside0.mk hr0_0
 clear hr0_0
 have hu := Try.underlying26
 have hm := @run_makeMap Try.prog
 unfold impl_IsValidYard.f okYard at h
 have hr := Option.some.inj h
 clear h
 have HB0 := Aside0.mk (Below.refl w.heap.size w)
 cases hin : Go.Proofs.Ytemildnlfjijmaa.U.inr (l0_0.length : Int) 1 6
 ·rw [hin] at hr
  obtain rfl : false = r := hr
  have HI := Aside0.mk hin
  clear hin
  go_enter Try.func38, Try.ntmps38
  go_wp2_with (go_at_call 21; (with_reducible refine (impl_within.calls _ 1 6 false _ (by rw [impl_within_eq, HI.out])).mono ?_); rintro e w' ⟨rfl, ⟨nd, rfl⟩⟩)
  go_ret
  exact ⟨rfl, by repeat ((with_reducible first | exact HB0.out | apply below_alloc | apply pw_below_drewN ) )⟩
 rw [hin, Bool.true_and] at hr
 have hl6 := (Go.Proofs.Ytemildnlfjijmaa.U.inr_iff.1 hin).2
 have HI := Aside0.mk hin
 clear hin
 have H := Aside0.mk hr
 clear hr
 go_enter Try.func38, Try.ntmps38
 go_wp2_with (go_at_call 21; (with_reducible refine (impl_within.calls _ 1 6 true _ (by rw [impl_within_eq, HI.out])).mono ?_); rintro e w' ⟨rfl, ⟨nd, rfl⟩⟩)
 go_loopw [17] (fun v17 wr => ∃ (i : Nat) (s : List Int), v17 = .int .i64 (i : Int) ∧ Aside0 (i ≤ l0_0.length) ∧ Aside0 (s.length ≤ 4 * i) ∧ Aside0 ((Go.Proofs.Ytemildnlfjijmaa.U.chkRows 4 (l0_0.drop i) s).isSome = r) ∧ Aside0 (wr.ownsMap Try.prog 3 (plainElem Try.prog 4) (w.heap.size + 1) s.length (Go.Proofs.Ytemildnlfjijmaa.GM.Mp s)) ∧ Aside0 (Below w.heap.size w wr))
   (fun v17 wr => l0_0.length - (intOf v17).toNat)
 case atStart =>
  have hown := World.ownsMap_made (H := Unit) ((w.alloc (.cells #[.slice A0_0 l0_0.length c0_0] 26)).drewN nd) Try.prog 3 (plainElem Try.prog 4)
  exact ⟨0, [], rfl, ⟨Nat.zero_le _⟩, ⟨Nat.le_refl _⟩, H, ⟨by simpa [Go.Proofs.Ytemildnlfjijmaa.GM.Mp] using hown⟩, ⟨by repeat ((with_reducible first | exact HB0.out | apply below_alloc | apply pw_below_drewN ) )⟩⟩
 clear H
 obtain ⟨i, s, rfl, HLe, HSl, H, HOwn, HB⟩ := hrel
 by_cases hlt : i < l0_0.length
 rotate_left
 ·have hltb : decide (i < l0_0.length) = false := decide_eq_false hlt
  have hf : true = r := by
    have h1 := H.out
    rw [List.drop_of_length_le (by omega)] at h1
    exact h1
  subst hf
  clear H
  go_wp2
  go_ret
  exact ⟨rfl, HB.out⟩
 have hltb : decide (i < l0_0.length) = true := decide_eq_true hlt
 obtain ⟨ad, A0, c0, eA, hcell, hcr, hCr⟩ := impl_IsValidYard.atRow HR.out i hlt
 cases eA
 replace hcell := (HB.out.cell (World.block_lt_of_cell? w _ hcell)).trans hcell
 have hdrop : l0_0.drop i = l0_0.getD i [] :: l0_0.drop (i + 1) := by rw [List.drop_eq_getElem_cons hlt, Go.Proofs.Ytemildnlfjijmaa.U.getD_at _ _ _ hlt]
 have HD := Aside0.mk hdrop
 clear hdrop
 generalize hrow : l0_0.getD i [] = row at *
 have HRow := Aside0.mk hrow
 clear hrow
 have hC := Aside0.mk hCr
 have hrn : row.length ≤ 9223372036854775807 := hCr.2.1
 clear hCr
 by_cases hrl : row.length ≤ 4
 rotate_left
 ·have hrlb : decide (4 < row.length) = true := decide_eq_true (by omega)
  have hrlb2 : decide (4 < (row.length : Int)) = true := decide_eq_true (by omega)
  have hf : false = r := by
    have h1 := H.out
    rw [HD.out, Go.Proofs.Ytemildnlfjijmaa.U.chkRows, if_neg (by omega)] at h1
    exact h1
  subst hf
  clear H HRow HD
  go_wp2
  go_ret
  exact ⟨rfl, HB.out⟩
 have hrlb : decide (4 < row.length) = false := decide_eq_false (by omega)
 have hrlb2 : decide (4 < (row.length : Int)) = false := decide_eq_false (by omega)
 have H2 : ((Go.Proofs.Ytemildnlfjijmaa.U.chkRow row s).bind (Go.Proofs.Ytemildnlfjijmaa.U.chkRows 4 (l0_0.drop (i + 1)))).isSome = r := by
   have h1 := H.out
   rw [HD.out, Go.Proofs.Ytemildnlfjijmaa.U.chkRows, if_pos (by omega)] at h1
   exact h1
 have H3 := Aside0.mk H2
 clear H2 H HRow
 go_wp2
 obtain ⟨wo, rfl⟩ : ∃ wo : World, wo = wr := ⟨_, rfl⟩
 go_loopw [26] (fun v26 wr => ∃ (j : Nat) (s : List Int), v26 = .int .i64 (j : Int) ∧ Aside0 (j ≤ row.length) ∧ Aside0 (s.length ≤ 4 * i + j) ∧ Aside0 (((Go.Proofs.Ytemildnlfjijmaa.U.chkRow (row.drop j) s).bind (Go.Proofs.Ytemildnlfjijmaa.U.chkRows 4 (l0_0.drop (i + 1)))).isSome = r) ∧ Aside0 (wr.ownsMap Try.prog 3 (plainElem Try.prog 4) (w.heap.size + 1) s.length (Go.Proofs.Ytemildnlfjijmaa.GM.Mp s)) ∧ Aside0 (Below w.heap.size w wr))
   (fun v26 wr => row.length - (intOf v26).toNat)
 case atStart => exact ⟨0, s, rfl, ⟨Nat.zero_le _⟩, HSl, H3, HOwn, HB⟩
 clear H3 HOwn HB HSl hcell
 obtain ⟨j, s2, rfl, HLe2, HSl2, H4, HOwn2, HB2⟩ := hrel
 by_cases hlt2 : j < row.length
 rotate_left
 ·have hlt2b : decide (j < row.length) = false := decide_eq_false hlt2
  have H5 : (Go.Proofs.Ytemildnlfjijmaa.U.chkRows 4 (l0_0.drop (i + 1)) s2).isSome = r := by
    have h1 := H4.out
    rw [List.drop_of_length_le (by omega)] at h1
    exact h1
  have H6 := Aside0.mk H5
  clear H5 H4
  go_wp2
  go_roundw
  case rel => exact ⟨i + 1, s2, by go_num, ⟨hlt⟩, ⟨by have h1 := HSl2.out; have h2 := HLe2.out; omega⟩, H6, HOwn2, HB2⟩
  case measure => simp [intOf]; omega
 have hlt2b : decide (j < row.length) = true := decide_eq_true hlt2
 obtain ⟨ad2, eA2, hcell2⟩ := impl_IsValidYard.atInt hC.out j hlt2
 cases eA2
 replace hcell2 := (HB2.out.cell (World.block_lt_of_cell? w _ hcell2)).trans hcell2
 have hdrop2 : row.drop j = row.getD j 0 :: row.drop (j + 1) := by rw [List.drop_eq_getElem_cons hlt2, Go.Proofs.Ytemildnlfjijmaa.U.getD_at _ _ _ hlt2]
 have HD2 := Aside0.mk hdrop2
 clear hdrop2
 generalize hn : row.getD j 0 = n at *
 clear hn
 cases hb1 : Go.Proofs.Ytemildnlfjijmaa.U.inr n 1 99
 ·have hf : false = r := by
    have h1 := H4.out
    rw [HD2.out, Go.Proofs.Ytemildnlfjijmaa.U.chkRow_bad (by rw [hb1]; rfl)] at h1
    exact h1
  subst hf
  have HI2 := Aside0.mk hb1
  clear hb1 H4 HD2
  go_wp2_with (first | (go_at_call 21; (with_reducible refine (impl_within.calls _ 1 99 false _ (by rw [impl_within_eq, HI2.out])).mono ?_); rintro e w' ⟨rfl, ⟨nd2, rfl⟩⟩))
  go_ret
  exact ⟨rfl, by repeat ((with_reducible first | exact HB2.out | apply pw_below_drewN ) )⟩
 have hwf : (Lit.int .i64 n).wf = true := by
   have h1 := Go.Proofs.Ytemildnlfjijmaa.U.inr_iff.1 hb1
   show (decide (IntKind.i64.min ≤ n) && decide (n ≤ IntKind.i64.max)) = true
   rw [Bool.and_eq_true, decide_eq_true_iff, decide_eq_true_iff]
   exact ⟨by show (-9223372036854775808 : Int) ≤ n; omega, by show n ≤ (9223372036854775807 : Int); omega⟩
 have HWf := Aside0.mk hwf
 clear hwf
 have HI2 := Aside0.mk hb1
 clear hb1
 have hs24 : s2.length ≤ 40 := by have h1 := HSl2.out; omega
 cases hcn : s2.contains n
 ·have H5 : ((Go.Proofs.Ytemildnlfjijmaa.U.chkRow (row.drop (j + 1)) (n :: s2)).bind (Go.Proofs.Ytemildnlfjijmaa.U.chkRows 4 (l0_0.drop (i + 1)))).isSome = r := by
    have h1 := H4.out
    rw [HD2.out, Go.Proofs.Ytemildnlfjijmaa.U.chkRow_ok (by rw [HI2.out, hcn]; rfl)] at h1
    exact h1
  have H6 := Aside0.mk H5
  have HCn := Aside0.mk hcn
  clear hcn H5 H4 HD2
  go_wp2_with (first | (go_at_call 21; (with_reducible refine (impl_within.calls _ 1 99 true _ (by rw [impl_within_eq, HI2.out])).mono ?_); rintro e w' ⟨rfl, ⟨nd2, rfl⟩⟩) | (at_lookup; refine gate_guard (by rfl) ?_; dsimp only; refine Go.Proofs.Ytemildnlfjijmaa.GM.wpList_lookup_own_bool _ rfl _ _ 80 rfl 3 4 impl_IsValidYard.keyed Try.underlying80 Try.underlying4 (impl_IsValidYard.zeroB _) (w.heap.size + 1) s2.length (Go.Proofs.Ytemildnlfjijmaa.GM.Mp s2) rfl HOwn2.out _ _ rfl (Go.Maps.keyOf_int_mk Try.underlying3 HWf.out) false ((Go.Proofs.Ytemildnlfjijmaa.GM.Mp_at n s2).trans (by rw [HCn.out])) ?_) | (at_mapUpdate; refine wpList_mapUpdate_own _ rfl _ _ _ 80 rfl 3 4 impl_IsValidYard.keyed Try.underlying80 (plainElem Try.prog 4) (w.heap.size + 1) s2.length (Go.Proofs.Ytemildnlfjijmaa.GM.Mp s2) rfl HOwn2.out (by unfold maxLen; omega) _ _ _ rfl rfl (Go.Maps.keyOf_int_mk Try.underlying3 HWf.out) _ [] (plainElem_bool Try.underlying4 true) ?_; intro w1 hown1 hgrow1))
  go_roundw
  case rel =>
   refine ⟨j + 1, n :: s2, by go_num, ⟨hlt2⟩, ⟨by have h1 := HSl2.out; rw [List.length_cons]; omega⟩, H6, ⟨hown1⟩, ⟨?_⟩⟩
   exact Below.grown (by repeat ((with_reducible first | exact HB2.out | apply pw_below_drewN ) )) hgrow1 HB2.out.size (fun k hk => by cases hk; omega)
  case measure => simp [intOf]; omega
 have hf : false = r := by
   have h1 := H4.out
   rw [HD2.out, Go.Proofs.Ytemildnlfjijmaa.U.chkRow_bad (by rw [HI2.out, hcn]; rfl)] at h1
   exact h1
 subst hf
 have HCn := Aside0.mk hcn
 clear hcn H4 HD2
 go_wp2_with (first | (go_at_call 21; (with_reducible refine (impl_within.calls _ 1 99 true _ (by rw [impl_within_eq, HI2.out])).mono ?_); rintro e w' ⟨rfl, ⟨nd2, rfl⟩⟩) | (at_lookup; refine gate_guard (by rfl) ?_; dsimp only; refine Go.Proofs.Ytemildnlfjijmaa.GM.wpList_lookup_own_bool _ rfl _ _ 80 rfl 3 4 impl_IsValidYard.keyed Try.underlying80 Try.underlying4 (impl_IsValidYard.zeroB _) (w.heap.size + 1) s2.length (Go.Proofs.Ytemildnlfjijmaa.GM.Mp s2) rfl HOwn2.out _ _ rfl (Go.Maps.keyOf_int_mk Try.underlying3 HWf.out) true ((Go.Proofs.Ytemildnlfjijmaa.GM.Mp_at n s2).trans (by rw [HCn.out])) ?_))
 go_ret
 exact ⟨rfl, by repeat ((with_reducible first | exact HB2.out | apply pw_below_drewN ) )⟩
end Go.Proofs.Ytemildnlfjijmaa.P
