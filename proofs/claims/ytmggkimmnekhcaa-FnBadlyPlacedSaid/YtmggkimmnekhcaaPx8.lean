-- Written by a program of this session over the translation (a variant of the printer, see wip/gen); Lean checks it.
import Derived.Test.YtmggkimmnekhcaaPx0
import Derived.Test.YtmggkimmnekhcaaU
namespace Go.Proofs.Ytmggkimmnekhcaa.P
open Go.RowKit Go.Proofs.YtmggkimmnekhcaaW.PrintWords Go.Proofs.YtmggkimmnekhcaaW.PrintLast Go.Proofs.YtmggkimmnekhcaaW.PrintMore
attribute [local go_sem] Go.Proofs.Ytmggkimmnekhcaa.V.isSome_setCell max2_int min2_int max_two min_two max_three min_three max_four min_four   -- for this text's walks alone
set_option linter.unusedVariables false
set_option linter.unusedSimpArgs false

/-! ### slices_Min_int_int: function 58 -/
def mnL : List Int → Int → Int
  | [], m => m
  | x :: l, m => mnL l (mn m x)
/-- The least of numbers; of none: nothing. -/
def slices_Min_int_int.f : List Int → Option (Int)
  | [] => none
  | x :: l => some (mnL l x)
theorem slices_Min_int_int.atInt {w : World} {A : Option Addr} {n : Nat} {xs : List Int} (h : Kd.C (Kd.int .i64) w A n xs) (i : Nat) (h1 : i < n) : ∃ ad, A = some ad ∧ w.cell? (ad.add i) = some (.int .i64 (xs.getD i 0)) := by
  obtain ⟨ad, c, e, _, hK, hc0⟩ := Kd.C_get h (0 : Int) (i : Int) (by omega) (by omega)
  have hc : ∀ j u, c[j]? = some u → w.cell? (ad.add ((i : Int).toNat * 1 + j)) = some u := hc0
  have e1 : c = [.int .i64 (xs.getD (i : Int).toNat 0)] := hK
  subst e1
  have hq := hc 0 _ rfl
  rw [Nat.mul_one, Nat.add_zero, Int.toNat_natCast] at hq
  exact ⟨ad, e, hq⟩
set_option maxHeartbeats 8000000 in
set_option maxRecDepth 100000 in
theorem slices_Min_int_int.calls (A0 : Option Addr) (c0 : Nat) (l0 : List Int) (r : Int) (w : World) (hr0 : Kd.C (Kd.int .i64) w A0 l0.length l0) (hc0 : l0.length ≤ c0) (h : slices_Min_int_int.f l0 = some r) :
    Calls Try.prog 58 #[.slice A0 l0.length c0] w fun e w' => e = .returned (.int .i64 r) ∧ Drawn0 w w' := by
  have hln : l0.length ≤ 9223372036854775807 := hr0.2.1
  have HR := Aside0.mk hr0
  clear hr0
  have hpos : 0 < l0.length := by cases l0 with | nil => cases h | cons x l => simp
  have hr : mnL (l0.drop 1) (l0.getD 0 0) = r := by cases l0 with | nil => cases h | cons x l => exact Option.some.inj h
  have HRr := Aside0.mk hr
  clear hr h
  obtain ⟨ad, eA, hc00⟩ := slices_Min_int_int.atInt HR.out 0 hpos
  cases eA
  have hx0 : w.cell? (ad.add (0 : Int).toNat) = some (.int .i64 (l0.getD 0 0)) := hc00
  have hx1 : w.cell? ad = some (.int .i64 (l0.getD 0 0)) := by simpa [Addr.add] using hc00
  generalize hm : l0.getD 0 0 = m0 at *
  clear hm
  have d1 : decide (l0.length < 1) = false := decide_eq_false (by omega)
  have d2 : decide ((l0.length : Int) < 1) = false := decide_eq_false (by omega)
  go_enter Try.func58, Try.ntmps58
  go_wp2
  go_loopw [3, 4] (fun v3 v4 wr => ∃ (i : Nat) (m : Int), v3 = .int .i64 m ∧ v4 = .int .i64 (i : Int) ∧ Aside0 (1 ≤ i ∧ i ≤ l0.length) ∧ Aside0 (mnL (l0.drop i) m = r) ∧ Drawn0 w wr) (fun v3 v4 wr => l0.length - (intOf v4).toNat)
  case atStart => exact ⟨1, m0, rfl, rfl, ⟨⟨Nat.le_refl _, hpos⟩⟩, HRr, Drawn0.refl _⟩
  case round =>
    clear HRr hx0 hx1 hc00 d1 d2
    obtain ⟨i, m, rfl, rfl, HLe, HM, HD⟩ := hrel
    have HD2 := Aside0.mk HD
    clear HD
    by_cases hlt : i < l0.length
    · have hltb : decide (i < l0.length) = true := decide_eq_true hlt
      obtain ⟨ad2, eA, hcell⟩ := slices_Min_int_int.atInt HR.out i hlt
      obtain rfl : ad = ad2 := by injection eA
      replace hcell := (HD2.out.below.cell (World.block_lt_of_cell? w _ hcell)).trans hcell
      have hdrop : l0.drop i = l0.getD i 0 :: l0.drop (i + 1) := by rw [List.drop_eq_getElem_cons hlt, Go.Proofs.Ytmggkimmnekhcaa.U.getD_at _ _ _ hlt]
      have H2 : mnL (l0.drop (i + 1)) (mn m (l0.getD i 0)) = r := by
        have h1 := HM.out
        rw [hdrop, mnL] at h1
        exact h1
      have H3 := Aside0.mk H2
      clear H2 hdrop HM
      go_wp2
      go_roundw
      case rel => exact ⟨i + 1, mn m (l0.getD i 0), by rw [show l0.getD i 0 = l0[i] from Go.Proofs.Ytmggkimmnekhcaa.U.getD_at _ _ _ hlt]; rfl, by go_num, ⟨⟨by omega, hlt⟩⟩, H3, HD2.out⟩
      case measure => simp [intOf]; omega
    · have hltb : decide (i < l0.length) = false := decide_eq_false hlt
      have H2 : m = r := by
        have h1 := HM.out
        rw [List.drop_of_length_le (by omega)] at h1
        exact h1
      subst H2
      clear HM
      go_wp2
      go_ret
      exact ⟨rfl, HD2.out⟩


end Go.Proofs.Ytmggkimmnekhcaa.P
