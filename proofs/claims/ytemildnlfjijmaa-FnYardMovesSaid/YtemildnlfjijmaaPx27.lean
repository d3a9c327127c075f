-- Written by a program of this session over the translation (a variant of the printer, see wip/gen); Lean checks it.
import Derived.Test.YtemildnlfjijmaaPx0
import Derived.Test.YtemildnlfjijmaaU
import Derived.Test.YtemildnlfjijmaaPx10
import Derived.Test.YtemildnlfjijmaaPx11
namespace Go.Proofs.Ytemildnlfjijmaa.P
open Go.RowKit Go.Proofs.YtemildnlfjijmaaW.PrintWords Go.Proofs.YtemildnlfjijmaaW.PrintLast Go.Proofs.YtemildnlfjijmaaW.PrintMore
attribute [local go_sem] Go.Proofs.Ytemildnlfjijmaa.V.isSome_setCell max2_int min2_int max_two min_two max_three min_three max_four min_four
set_option linter.unusedVariables false
set_option linter.unusedSimpArgs false
/-! ### slices_IndexFunc_int_int: function 66 -/
theorem indexFunc.atInt {w : World} {A : Option Addr} {n : Nat} {xs : List Int} (h : Kd.C (Kd.int .i64) w A n xs) (i : Nat) (h1 : i < n) : ∃ ad, A = some ad ∧ w.cell? (ad.add i) = some (.int .i64 (xs.getD i 0)) := by
 obtain ⟨ad, c, e, _, hK, hc0⟩ := Kd.C_get h (0 : Int) (i : Int) (by omega) (by omega)
 have hc : ∀ j u, c[j]? = some u → w.cell? (ad.add ((i : Int).toNat * 1 + j)) = some u := hc0
 have e1 : c = [.int .i64 (xs.getD (i : Int).toNat 0)] := hK
 subst e1
 have hq := hc 0 _ rfl
 rw [Nat.mul_one, Nat.add_zero, Int.toNat_natCast] at hq
 exact ⟨ad, e, hq⟩
/-- The first place at which a predicate holds, from place i on; -1 if there is none. -/
def idxF (p : Int → Bool) : List Int → Nat → Int
  | [], _ => -1
  | x :: l, i => if p x then (i : Int) else idxF p l (i + 1)
theorem idxF_any (p : Int → Bool) : ∀ (l : List Int) (i : Nat), decide (0 ≤ idxF p l i) = l.any p
  | [], _ => rfl
  | x :: l, i => by
    unfold idxF
    rw [List.any_cons]
    cases h : p x
    · simp only [Bool.false_eq_true, if_false, Bool.false_or]; exact idxF_any p l (i + 1)
    · simp only [if_true, Bool.true_or, decide_eq_true_eq]; omega
set_option maxHeartbeats 8000000 in
set_option maxRecDepth 100000 in
/-- slices.IndexFunc at a function value that captures something. -/
theorem indexFuncC (g : FuncId) (cap : Array Value) (p : Int → Bool) (A0 : Option Addr) (c0 : Nat) (l0 : List Int) (w : World) (hr0 : Kd.C (Kd.int .i64) w A0 l0.length l0) (hcf : ∀ (args : Array Value) (W : World), (callFunc g args).run Try.prog W = .ok (.enter g args) W) (hp : ∀ (x : Int), x ∈ l0 → ∀ (W : World), Drawn0 w W → Calls Try.prog g (#[.int .i64 x] ++ cap) W fun e W' => e = .returned (.bool (p x)) ∧ Drawn0 W W') :
    Calls Try.prog 66 #[.slice A0 l0.length c0, .func (.func g) #[] cap] w fun e w' => e = .returned (.int .i64 (idxF p l0 0)) ∧ Drawn0 w w' := by
 have hln : l0.length ≤ 9223372036854775807 := hr0.2.1
 have HR := Aside0.mk hr0
 have HP := Aside0.mk hp
 clear hr0 hp
 go_enter Try.func66, Try.ntmps66
 go_wp2
 go_loopw [8] (fun v8 wr => ∃ i : Nat, v8 = .int .i64 (i : Int) ∧ Aside0 (i ≤ l0.length) ∧ Aside0 (idxF p (l0.drop i) i = idxF p l0 0) ∧ Drawn0 w wr) (fun v8 wr => l0.length - (intOf v8).toNat)
 case atStart => exact ⟨0, rfl, ⟨Nat.zero_le _⟩, ⟨rfl⟩, Drawn0.refl _⟩
 obtain ⟨i, rfl, HLe, HI, HD⟩ := hrel
 have HD2 := Aside0.mk HD
 clear HD
 by_cases hlt : i < l0.length
 rotate_left
 ·have hltb : decide (i < l0.length) = false := decide_eq_false hlt
  have H2 : (-1 : Int) = idxF p l0 0 := by
    have h1 := HI.out
    rw [List.drop_of_length_le (by omega)] at h1
    exact h1
  have H3 := Aside0.mk H2
  clear H2 HI
  go_wp2
  go_ret
  exact ⟨by (rw [← H3.out]; rfl), HD2.out⟩
 have hltb : decide (i < l0.length) = true := decide_eq_true hlt
 obtain ⟨ad, eA, hcell⟩ := indexFunc.atInt HR.out i hlt
 cases eA
 replace hcell := (HD2.out.below.cell (World.block_lt_of_cell? w _ hcell)).trans hcell
 have hdrop : l0.drop i = l0.getD i 0 :: l0.drop (i + 1) := by rw [List.drop_eq_getElem_cons hlt, Go.Proofs.Ytemildnlfjijmaa.U.getD_at _ _ _ hlt]
 have HDr := Aside0.mk hdrop
 clear hdrop
 have HMem := Aside0.mk (show l0.getD i 0 ∈ l0 by rw [Go.Proofs.Ytemildnlfjijmaa.U.getD_at _ _ _ hlt]; exact List.getElem_mem hlt)
 generalize hx : l0.getD i 0 = x at *
 clear hx
 cases hpx : p x
 ·have HPx := Aside0.mk hpx
  clear hpx
  have H2 : idxF p (l0.drop (i + 1)) (i + 1) = idxF p l0 0 := by
    have h1 := HI.out
    rw [HDr.out, idxF, HPx.out] at h1
    exact h1
  have H3 := Aside0.mk H2
  clear H2 HI HDr
  go_wp2_with (first | (refine (HP.out x HMem.out _ HD2.out).mono ?_; rw [HPx.out]; rintro e w' ⟨rfl, ⟨nd, rfl⟩⟩))
  go_roundw
  case rel => exact ⟨i + 1, by go_num, ⟨hlt⟩, H3, HD2.out.step nd⟩
  case measure => simp [intOf]; omega
 have HPx := Aside0.mk hpx
 clear hpx
 have H2 : (i : Int) = idxF p l0 0 := by
   have h1 := HI.out
   rw [HDr.out, idxF, HPx.out] at h1
   exact h1
 have H3 := Aside0.mk H2
 clear H2 HI HDr
 go_wp2_with (first | (refine (HP.out x HMem.out _ HD2.out).mono ?_; rw [HPx.out]; rintro e w' ⟨rfl, ⟨nd, rfl⟩⟩))
 go_ret
 exact ⟨by (rw [← H3.out]; rfl), HD2.out.step nd⟩
end Go.Proofs.Ytemildnlfjijmaa.P
namespace Go.Proofs.Ytemildnlfjijmaa.P
open Go.RowKit Go.Proofs.YtemildnlfjijmaaW.PrintWords Go.Proofs.YtemildnlfjijmaaW.PrintLast Go.Proofs.YtemildnlfjijmaaW.PrintMore
attribute [local go_sem] Go.Proofs.Ytemildnlfjijmaa.V.isSome_setCell max2_int min2_int max_two min_two max_three min_three max_four min_four
set_option linter.unusedVariables false
set_option linter.unusedSimpArgs false
/-! ### slices_ContainsFunc_int_int: function 56 -/
set_option maxHeartbeats 8000000 in
set_option maxRecDepth 100000 in
/-- slices.ContainsFunc at a function value that captures something, asked at the members alone. -/
theorem containsFuncM (g : FuncId) (cap : Array Value) (p : Int → Bool) (A0 : Option Addr) (c0 : Nat) (l0 : List Int) (w : World) (hr0 : Kd.C (Kd.int .i64) w A0 l0.length l0) (hcf : ∀ (args : Array Value) (W : World), (callFunc g args).run Try.prog W = .ok (.enter g args) W) (hp : ∀ (x : Int), x ∈ l0 → ∀ (W : World), Drawn0 w W → Calls Try.prog g (#[.int .i64 x] ++ cap) W fun e W' => e = .returned (.bool (p x)) ∧ Drawn0 W W') :
    Calls Try.prog 56 #[.slice A0 l0.length c0, .func (.func g) #[] cap] w fun e w' => e = .returned (.bool (l0.any p)) ∧ Drawn0 w w' := by
 have HF := Aside0.mk (indexFuncC g cap p A0 c0 l0 w hr0 hcf hp)
 clear hr0 hp hcf
 rw [← idxF_any p l0 0]
 generalize idxF p l0 0 = q at *
 go_enter Try.func56, Try.ntmps56
 go_wp2_with (first | (go_at_call 66; refine HF.out.mono ?_; rintro e w' ⟨rfl, ⟨nd, rfl⟩⟩))
 go_ret
 exact ⟨rfl, (Drawn0.refl _).step nd⟩
theorem containsFuncC (g : FuncId) (cap : Array Value) (p : Int → Bool) (A0 : Option Addr) (c0 : Nat) (l0 : List Int) (w : World) (hr0 : Kd.C (Kd.int .i64) w A0 l0.length l0) (hcf : ∀ (args : Array Value) (W : World), (callFunc g args).run Try.prog W = .ok (.enter g args) W) (hp : ∀ (x : Int) (W : World), Drawn0 w W → Calls Try.prog g (#[.int .i64 x] ++ cap) W fun e W' => e = .returned (.bool (p x)) ∧ Drawn0 W W') :
    Calls Try.prog 56 #[.slice A0 l0.length c0, .func (.func g) #[] cap] w fun e w' => e = .returned (.bool (l0.any p)) ∧ Drawn0 w w' :=
  containsFuncM g cap p A0 c0 l0 w hr0 hcf (fun x _ => hp x)
end Go.Proofs.Ytemildnlfjijmaa.P
namespace Go.Proofs.Ytemildnlfjijmaa.P
open Go.RowKit Go.Proofs.YtemildnlfjijmaaW.PrintWords Go.Proofs.YtemildnlfjijmaaW.PrintLast Go.Proofs.YtemildnlfjijmaaW.PrintMore
attribute [local go_sem] Go.Proofs.Ytemildnlfjijmaa.V.isSome_setCell max2_int min2_int max_two min_two max_three min_three max_four min_four
set_option linter.unusedVariables false
set_option linter.unusedSimpArgs false
/-! ### impl_hasStack: function 44 -/
/-- A valid yard that has all these stacks. -/
def okStacks (l : List (List Int)) (ss : List Int) : Bool := okYard l && !(ss.any fun s => !Go.Proofs.Ytemildnlfjijmaa.U.inr s 0 ((l.length : Int) - 1))
def impl_hasStack.f (l0_0 : List (List Int)) (l1 : List Int) : Option (Bool) := some (okStacks l0_0 l1)
theorem impl_hasStack.within_eq (a b c : Int) : impl_within.f a b c = some (Go.Proofs.Ytemildnlfjijmaa.U.inr a b c) := by
 unfold impl_within.f Go.Proofs.Ytemildnlfjijmaa.U.inr
 by_cases h : b ≤ a <;> simp [h]
set_option maxHeartbeats 8000000 in
set_option maxRecDepth 100000 in
theorem impl_hasStack.each (A : Option Addr) (n c : Nat) (hn : n ≤ 9223372036854775807) (b : Nat) (x : Int) (W : World) (hb : W.cell? ⟨b, 0, none⟩ = some (.slice A n c)) :
    Calls Try.prog 57 #[.int .i64 x, .pointer (some ⟨b, 0, none⟩)] W fun e W' => e = .returned (.bool (!Go.Proofs.Ytemildnlfjijmaa.U.inr x 0 ((n : Int) - 1))) ∧ Drawn0 W W' := by
 have hu := Try.underlying26
 have hw : wrap64 ((n : Int) - 1) = (n : Int) - 1 := Go.Proofs.Ytemildnlfjijmaa.U.wr (by omega) (by omega)
 have HW := Aside0.mk hw
 clear hw
 go_enter Try.func57, Try.ntmps57
 go_wp2_with (first | (go_at_call 21; (with_reducible refine (impl_within.calls x 0 _ (Go.Proofs.Ytemildnlfjijmaa.U.inr x 0 ((n : Int) - 1)) _ (by rw [impl_hasStack.within_eq])).mono ?_); rintro e w' ⟨rfl, ⟨nd, rfl⟩⟩))
 go_ret
 exact ⟨rfl, (Drawn0.refl _).step nd⟩
set_option maxHeartbeats 8000000 in
set_option maxRecDepth 100000 in
theorem impl_hasStack.calls (A0_0 : Option Addr) (c0_0 : Nat) (l0_0 : List (List Int)) (A1 : Option Addr) (c1 : Nat) (l1 : List Int) (r : Bool) (w : World) (hr0_0 : Kd.C (Kd.slice 3 (Kd.int .i64)) w A0_0 l0_0.length l0_0) (hc0_0 : l0_0.length ≤ c0_0) (hr1 : Kd.C (Kd.int .i64) w A1 l1.length l1) (hc1 : l1.length ≤ c1) (h : impl_hasStack.f l0_0 l1 = some r) :
    Calls Try.prog 44 #[.agg #[.slice A0_0 l0_0.length c0_0], .slice A1 l1.length c1] w fun e w' => e = .returned (.bool r) ∧ Below w.heap.size w w' := by
 have hln : l0_0.length ≤ 9223372036854775807 := hr0_0.2.1
 have hu := Try.underlying26
 unfold impl_hasStack.f okStacks at h
 have hr := Option.some.inj h
 clear h
 have HB0 := Aside0.mk (Below.refl w.heap.size w)
 have HR := Aside0.mk hr0_0
 have HR1 := Aside0.mk hr1
 clear hr0_0 hr1
 have hb1 : Below w.heap.size w (w.alloc (.cells #[.slice A0_0 l0_0.length c0_0] 26)) := below_alloc HB0.out _
 have HB1 := Aside0.mk hb1
 have hcell : (w.alloc (.cells #[.slice A0_0 l0_0.length c0_0] 26)).cell? ⟨w.heap.size, 0, none⟩ = some (.slice A0_0 l0_0.length c0_0) := (blk_cell (blk_new w (.cells #[.slice A0_0 l0_0.length c0_0] 26 (0, 0))) 0).trans rfl
 have HCell := Aside0.mk hcell
 have hlt1 : w.heap.size < (w.alloc (.cells #[.slice A0_0 l0_0.length c0_0] 26)).heap.size := by simp
 clear hb1 hcell
 cases hv : okYard l0_0
 ·rw [hv, Bool.false_and] at hr
  subst hr
  have HV := Aside0.mk hv
  clear hv
  go_enter Try.func44, Try.ntmps44
  go_wp2_with (first | (go_at_call 38; refine (impl_IsValidYard.calls A0_0 c0_0 l0_0 false _ (Kd.C_below HR.out HB1.out) hc0_0 (by unfold impl_IsValidYard.f; rw [HV.out])).mono ?_; rintro e w' ⟨rfl, hbl⟩))
  go_ret
  exact ⟨rfl, HB1.out.trans (hbl.mono (Nat.le_of_lt hlt1))⟩
 rw [hv, Bool.true_and] at hr
 subst hr
 have HV := Aside0.mk hv
 clear hv
 go_enter Try.func44, Try.ntmps44
 go_wp2_with (first | (go_at_call 38; refine (impl_IsValidYard.calls A0_0 c0_0 l0_0 true _ (Kd.C_below HR.out HB1.out) hc0_0 (by unfold impl_IsValidYard.f; rw [HV.out])).mono ?_; rintro e w' ⟨rfl, hbl⟩; have HBL := Aside0.mk hbl; clear hbl; have HB2 := Aside0.mk (HB1.out.trans (HBL.out.mono (Nat.le_of_lt hlt1))); have HC2 := Aside0.mk ((HBL.out.cell (p := ⟨w.heap.size, 0, none⟩) hlt1).trans HCell.out)) | (go_at_call 56; refine (containsFuncC 57 #[.pointer (some ⟨w.heap.size, 0, none⟩)] (fun s => !Go.Proofs.Ytemildnlfjijmaa.U.inr s 0 ((l0_0.length : Int) - 1)) A1 c1 l1 _ (Kd.C_below HR1.out HB2.out) (fun args W => enters_ Try.func57 (by kernel_rfl) rfl args W) (fun x W hd => impl_hasStack.each A0_0 l0_0.length c0_0 hln w.heap.size x W ((hd.below.cell (p := ⟨w.heap.size, 0, none⟩) (World.block_lt_of_cell? _ _ HC2.out)).trans HC2.out))).mono ?_; rintro e w' ⟨rfl, ⟨nd, rfl⟩⟩))
 go_ret
 exact ⟨rfl, pw_below_drewN HB2.out nd⟩
end Go.Proofs.Ytemildnlfjijmaa.P
