-- Written by a program of this session over the translation (a variant of the printer, see wip/gen); Lean checks it.
import Derived.Test.YtmggkimmnekhcaaPx0
import Derived.Test.YtmggkimmnekhcaaU
namespace Go.Proofs.Ytmggkimmnekhcaa.P
open Go.RowKit Go.Proofs.YtmggkimmnekhcaaW.PrintWords Go.Proofs.YtmggkimmnekhcaaW.PrintLast Go.Proofs.YtmggkimmnekhcaaW.PrintMore
attribute [local go_sem] Go.Proofs.Ytmggkimmnekhcaa.V.isSome_setCell max2_int min2_int max_two min_two max_three min_three max_four min_four   -- for this text's walks alone
set_option linter.unusedVariables false
set_option linter.unusedSimpArgs false

/-! ### slices_IndexFunc_int_int: function 75 -/
theorem indexFunc.atInt {w : World} {A : Option Addr} {n : Nat} {xs : List Int} (h : Kd.C (Kd.int .i64) w A n xs) (i : Nat) (h1 : i < n) : ∃ ad, A = some ad ∧ w.cell? (ad.add i) = some (.int .i64 (xs.getD i 0)) := by
  obtain ⟨ad, c, e, _, hK, hc0⟩ := Kd.C_get h (0 : Int) (i : Int) (by omega) (by omega)
  have hc : ∀ j u, c[j]? = some u → w.cell? (ad.add ((i : Int).toNat * 1 + j)) = some u := hc0
  have e1 : c = [.int .i64 (xs.getD (i : Int).toNat 0)] := hK
  subst e1
  have hq := hc 0 _ rfl
  rw [Nat.mul_one, Nat.add_zero, Int.toNat_natCast] at hq
  exact ⟨ad, e, hq⟩
/-- The first place at which a predicate holds, from place i on; -1 if there is none. -/
def idxF (p : Int → Bool) : List Int → Nat → Int
  | [], _ => -1
  | x :: l, i => if p x then (i : Int) else idxF p l (i + 1)
theorem idxF_any (p : Int → Bool) : ∀ (l : List Int) (i : Nat), decide (0 ≤ idxF p l i) = l.any p
  | [], _ => rfl
  | x :: l, i => by
    unfold idxF
    rw [List.any_cons]
    cases h : p x
    · simp only [Bool.false_eq_true, if_false, Bool.false_or]; exact idxF_any p l (i + 1)
    · simp only [if_true, Bool.true_or, decide_eq_true_eq]; omega
set_option maxHeartbeats 8000000 in
set_option maxRecDepth 100000 in
/-- slices.IndexFunc at a function value that captures nothing. -/
theorem indexFunc0 (g : FuncId) (p : Int → Bool) (A0 : Option Addr) (c0 : Nat) (l0 : List Int) (w : World) (hr0 : Kd.C (Kd.int .i64) w A0 l0.length l0) (hcf : ∀ (args : Array Value) (W : World), (callFunc g args).run Try.prog W = .ok (.enter g args) W) (hp : ∀ (x : Int) (W : World), Drawn0 w W → Calls Try.prog g #[.int .i64 x] W fun e W' => e = .returned (.bool (p x)) ∧ Drawn0 W W') :
    Calls Try.prog 75 #[.slice A0 l0.length c0, .func (.func g) #[] #[]] w fun e w' => e = .returned (.int .i64 (idxF p l0 0)) ∧ Drawn0 w w' := by
  have hln : l0.length ≤ 9223372036854775807 := hr0.2.1
  have HR := Aside0.mk hr0
  have HP := Aside0.mk hp
  clear hr0 hp
  go_enter Try.func75, Try.ntmps75
  go_wp2
  go_loopw [8] (fun v8 wr => ∃ i : Nat, v8 = .int .i64 (i : Int) ∧ Aside0 (i ≤ l0.length) ∧ Aside0 (idxF p (l0.drop i) i = idxF p l0 0) ∧ Drawn0 w wr) (fun v8 wr => l0.length - (intOf v8).toNat)
  case atStart => exact ⟨0, rfl, ⟨Nat.zero_le _⟩, ⟨rfl⟩, Drawn0.refl _⟩
  case round =>
    obtain ⟨i, rfl, HLe, HI, HD⟩ := hrel
    have HD2 := Aside0.mk HD
    clear HD
    by_cases hlt : i < l0.length
    · have hltb : decide (i < l0.length) = true := decide_eq_true hlt
      obtain ⟨ad, eA, hcell⟩ := indexFunc.atInt HR.out i hlt
      cases eA
      replace hcell := (HD2.out.below.cell (World.block_lt_of_cell? w _ hcell)).trans hcell
      have hdrop : l0.drop i = l0.getD i 0 :: l0.drop (i + 1) := by rw [List.drop_eq_getElem_cons hlt, Go.Proofs.Ytmggkimmnekhcaa.U.getD_at _ _ _ hlt]
      have HDr := Aside0.mk hdrop
      clear hdrop
      generalize hx : l0.getD i 0 = x at *
      clear hx
      cases hpx : p x
      · have HPx := Aside0.mk hpx
        clear hpx
        have H2 : idxF p (l0.drop (i + 1)) (i + 1) = idxF p l0 0 := by
          have h1 := HI.out
          rw [HDr.out, idxF, HPx.out] at h1
          exact h1
        have H3 := Aside0.mk H2
        clear H2 HI HDr
        go_wp2_with (first | (refine (HP.out x _ HD2.out).mono ?_; rw [HPx.out]; rintro e w' ⟨rfl, ⟨nd, rfl⟩⟩))
        go_roundw
        case rel => exact ⟨i + 1, by go_num, ⟨hlt⟩, H3, HD2.out.step nd⟩
        case measure => simp [intOf]; omega
      · have HPx := Aside0.mk hpx
        clear hpx
        have H2 : (i : Int) = idxF p l0 0 := by
          have h1 := HI.out
          rw [HDr.out, idxF, HPx.out] at h1
          exact h1
        have H3 := Aside0.mk H2
        clear H2 HI HDr
        go_wp2_with (first | (refine (HP.out x _ HD2.out).mono ?_; rw [HPx.out]; rintro e w' ⟨rfl, ⟨nd, rfl⟩⟩))
        go_ret
        exact ⟨by first | (rw [← H3.out]; done) | (rw [← H3.out]; rfl), HD2.out.step nd⟩
    · have hltb : decide (i < l0.length) = false := decide_eq_false hlt
      have H2 : (-1 : Int) = idxF p l0 0 := by
        have h1 := HI.out
        rw [List.drop_of_length_le (by omega)] at h1
        exact h1
      have H3 := Aside0.mk H2
      clear H2 HI
      go_wp2
      go_ret
      exact ⟨by first | (rw [← H3.out]; done) | (rw [← H3.out]; rfl), HD2.out⟩
set_option maxHeartbeats 8000000 in
set_option maxRecDepth 100000 in
/-- slices.IndexFunc at a function value that captures something. -/
theorem indexFuncC (g : FuncId) (cap : Array Value) (p : Int → Bool) (A0 : Option Addr) (c0 : Nat) (l0 : List Int) (w : World) (hr0 : Kd.C (Kd.int .i64) w A0 l0.length l0) (hcf : ∀ (args : Array Value) (W : World), (callFunc g args).run Try.prog W = .ok (.enter g args) W) (hp : ∀ (x : Int), x ∈ l0 → ∀ (W : World), Drawn0 w W → Calls Try.prog g (#[.int .i64 x] ++ cap) W fun e W' => e = .returned (.bool (p x)) ∧ Drawn0 W W') :
    Calls Try.prog 75 #[.slice A0 l0.length c0, .func (.func g) #[] cap] w fun e w' => e = .returned (.int .i64 (idxF p l0 0)) ∧ Drawn0 w w' := by
  have hln : l0.length ≤ 9223372036854775807 := hr0.2.1
  have HR := Aside0.mk hr0
  have HP := Aside0.mk hp
  clear hr0 hp
  go_enter Try.func75, Try.ntmps75
  go_wp2
  go_loopw [8] (fun v8 wr => ∃ i : Nat, v8 = .int .i64 (i : Int) ∧ Aside0 (i ≤ l0.length) ∧ Aside0 (idxF p (l0.drop i) i = idxF p l0 0) ∧ Drawn0 w wr) (fun v8 wr => l0.length - (intOf v8).toNat)
  case atStart => exact ⟨0, rfl, ⟨Nat.zero_le _⟩, ⟨rfl⟩, Drawn0.refl _⟩
  case round =>
    obtain ⟨i, rfl, HLe, HI, HD⟩ := hrel
    have HD2 := Aside0.mk HD
    clear HD
    by_cases hlt : i < l0.length
    · have hltb : decide (i < l0.length) = true := decide_eq_true hlt
      obtain ⟨ad, eA, hcell⟩ := indexFunc.atInt HR.out i hlt
      cases eA
      replace hcell := (HD2.out.below.cell (World.block_lt_of_cell? w _ hcell)).trans hcell
      have hdrop : l0.drop i = l0.getD i 0 :: l0.drop (i + 1) := by rw [List.drop_eq_getElem_cons hlt, Go.Proofs.Ytmggkimmnekhcaa.U.getD_at _ _ _ hlt]
      have HDr := Aside0.mk hdrop
      clear hdrop
      have HMem := Aside0.mk (show l0.getD i 0 ∈ l0 by rw [Go.Proofs.Ytmggkimmnekhcaa.U.getD_at _ _ _ hlt]; exact List.getElem_mem hlt)
      generalize hx : l0.getD i 0 = x at *
      clear hx
      cases hpx : p x
      · have HPx := Aside0.mk hpx
        clear hpx
        have H2 : idxF p (l0.drop (i + 1)) (i + 1) = idxF p l0 0 := by
          have h1 := HI.out
          rw [HDr.out, idxF, HPx.out] at h1
          exact h1
        have H3 := Aside0.mk H2
        clear H2 HI HDr
        go_wp2_with (first | (refine (HP.out x HMem.out _ HD2.out).mono ?_; rw [HPx.out]; rintro e w' ⟨rfl, ⟨nd, rfl⟩⟩))
        go_roundw
        case rel => exact ⟨i + 1, by go_num, ⟨hlt⟩, H3, HD2.out.step nd⟩
        case measure => simp [intOf]; omega
      · have HPx := Aside0.mk hpx
        clear hpx
        have H2 : (i : Int) = idxF p l0 0 := by
          have h1 := HI.out
          rw [HDr.out, idxF, HPx.out] at h1
          exact h1
        have H3 := Aside0.mk H2
        clear H2 HI HDr
        go_wp2_with (first | (refine (HP.out x HMem.out _ HD2.out).mono ?_; rw [HPx.out]; rintro e w' ⟨rfl, ⟨nd, rfl⟩⟩))
        go_ret
        exact ⟨by first | (rw [← H3.out]; done) | (rw [← H3.out]; rfl), HD2.out.step nd⟩
    · have hltb : decide (i < l0.length) = false := decide_eq_false hlt
      have H2 : (-1 : Int) = idxF p l0 0 := by
        have h1 := HI.out
        rw [List.drop_of_length_le (by omega)] at h1
        exact h1
      have H3 := Aside0.mk H2
      clear H2 HI
      go_wp2
      go_ret
      exact ⟨by first | (rw [← H3.out]; done) | (rw [← H3.out]; rfl), HD2.out⟩


end Go.Proofs.Ytmggkimmnekhcaa.P
