-- Written by a program of this session over the translation (a variant of the printer, see wip/gen); Lean checks it.
import Derived.Test.YtipahijdcgoemaaPx0
import Derived.Test.YtipahijdcgoemaaPx1
import Derived.Test.YtipahijdcgoemaaPx3
import Derived.Test.YtipahijdcgoemaaU
namespace Go.Proofs.Ytipahijdcgoemaa.P
open Go.RowKit Go.Proofs.YtipahijdcgoemaaW.PrintWords Go.Proofs.YtipahijdcgoemaaW.PrintLast Go.Proofs.YtipahijdcgoemaaW.PrintMore
attribute [local go_sem] Go.Proofs.Ytipahijdcgoemaa.V.isSome_setCell max2_int min2_int max_two min_two max_three min_three max_four min_four   -- for this text's walks alone
set_option linter.unusedVariables false
set_option linter.unusedSimpArgs false

/-! ### impl_IsValidStowage: function 17 -/
/-- A stowage is valid: its rows, its height, its ports. -/
def okSt (rows high : Int) (ports : List Int) : Bool := Go.Proofs.Ytipahijdcgoemaa.U.inr rows 1 5 && (Go.Proofs.Ytipahijdcgoemaa.U.inr high 1 4 && (decide ((ports.length : Int) ≤ 7) && (decide ((ports.length : Int) ≤ rows * high) && !(ports.any fun x => !Go.Proofs.Ytipahijdcgoemaa.U.inr x 1 9))))
def impl_IsValidStowage.f (a0_0 : Int) (a0_1 : Int) (l0_2 : List Int) : Option (Bool) := some (okSt a0_0 a0_1 l0_2)
theorem impl_IsValidStowage.within_eq (a b c : Int) : impl_within.f a b c = some (Go.Proofs.Ytipahijdcgoemaa.U.inr a b c) := by
  unfold impl_within.f Go.Proofs.Ytipahijdcgoemaa.U.inr
  by_cases h : b ≤ a <;> simp [h]
set_option maxHeartbeats 8000000 in
set_option maxRecDepth 100000 in
theorem impl_IsValidStowage.each (x : Int) (W : World) : Calls Try.prog 44 #[.int .i64 x] W fun e W' => e = .returned (.bool (!Go.Proofs.Ytipahijdcgoemaa.U.inr x 1 9)) ∧ Drawn0 W W' := by
  go_enter Try.func44, Try.ntmps44
  go_wp2_with (first | (go_at_call 27; (with_reducible refine (impl_within.calls _ 1 9 _ _ (impl_IsValidStowage.within_eq _ _ _)).mono ?_); rintro e w' ⟨rfl, ⟨nd, rfl⟩⟩))
  go_ret
  exact ⟨rfl, (Drawn0.refl _).step nd⟩
theorem impl_IsValidStowage.prod {a b : Int} (ha : Go.Proofs.Ytipahijdcgoemaa.U.inr a 1 5 = true) (hb : Go.Proofs.Ytipahijdcgoemaa.U.inr b 1 4 = true) : wrap64 (a * b) = a * b := by
  have h1 := Go.Proofs.Ytipahijdcgoemaa.U.inr_iff.1 ha
  have h2 := Go.Proofs.Ytipahijdcgoemaa.U.inr_iff.1 hb
  have h3 : a * b ≤ a * 4 := Int.mul_le_mul_of_nonneg_left h2.2 (by omega)
  have h4 : 0 ≤ a * b := Int.mul_nonneg (by omega) (by omega)
  exact Go.Proofs.Ytipahijdcgoemaa.U.wr (by omega) (by omega)
set_option maxHeartbeats 8000000 in
set_option maxRecDepth 100000 in
theorem impl_IsValidStowage.calls (a0_0 : Int) (a0_1 : Int) (A0_2 : Option Addr) (c0_2 : Nat) (l0_2 : List Int) (r : Bool) (w : World) (hr0_2 : Kd.C (Kd.int .i64) w A0_2 l0_2.length l0_2) (hc0_2 : l0_2.length ≤ c0_2) (h : impl_IsValidStowage.f a0_0 a0_1 l0_2 = some r) :
    Calls Try.prog 17 #[.agg #[.int .i64 a0_0, .int .i64 a0_1, .slice A0_2 l0_2.length c0_2]] w fun e w' => e = .returned (.bool r) ∧ Below w.heap.size w w' := by
  have hu := Try.underlying26
  have HB0 := Aside0.mk (Below.refl w.heap.size w)
  have HR := Aside0.mk hr0_2
  have hln : l0_2.length ≤ 9223372036854775807 := hr0_2.2.1
  clear hr0_2
  unfold impl_IsValidStowage.f okSt at h
  have hr := Option.some.inj h
  clear h
  cases h1 : Go.Proofs.Ytipahijdcgoemaa.U.inr a0_0 1 5
  · rw [h1, Bool.false_and] at hr
    subst hr
    have H1 := Aside0.mk h1
    clear h1
    go_enter Try.func17, Try.ntmps17
    go_wp2_with (first | (go_at_call 27; (with_reducible refine (impl_within.calls a0_0 1 5 false _ (by rw [impl_IsValidStowage.within_eq, H1.out])).mono ?_); rintro e w' ⟨rfl, ⟨nd, rfl⟩⟩))
    go_ret
    exact ⟨rfl, by repeat (first | (with_reducible first | exact HB0.out | apply below_alloc | apply pw_below_drewN | apply below_drew1) | exact HB0.out)⟩
  rw [h1, Bool.true_and] at hr
  cases h2 : Go.Proofs.Ytipahijdcgoemaa.U.inr a0_1 1 4
  · rw [h2, Bool.false_and] at hr
    subst hr
    have H1 := Aside0.mk h1
    have H2 := Aside0.mk h2
    clear h1 h2
    go_enter Try.func17, Try.ntmps17
    go_wp2_with (first | (go_at_call 27; first | ((with_reducible refine (impl_within.calls a0_0 1 5 true _ (by rw [impl_IsValidStowage.within_eq, H1.out])).mono ?_); rintro e w' ⟨rfl, ⟨nd, rfl⟩⟩) | ((with_reducible refine (impl_within.calls a0_1 1 4 false _ (by rw [impl_IsValidStowage.within_eq, H2.out])).mono ?_); rintro e w' ⟨rfl, ⟨nd2, rfl⟩⟩)))
    go_ret
    exact ⟨rfl, by repeat (first | (with_reducible first | exact HB0.out | apply below_alloc | apply pw_below_drewN | apply below_drew1) | exact HB0.out)⟩
  rw [h2, Bool.true_and] at hr
  have hpr := impl_IsValidStowage.prod h1 h2
  have H1 := Aside0.mk h1
  have H2 := Aside0.mk h2
  clear h1 h2
  by_cases h3 : (l0_2.length : Int) ≤ 7
  · have d3 : decide (7 < l0_2.length) = false := decide_eq_false (by omega)
    have d3b : decide (7 < (l0_2.length : Int)) = false := decide_eq_false (by omega)
    rw [decide_eq_true h3, Bool.true_and] at hr
    by_cases h4 : (l0_2.length : Int) ≤ a0_0 * a0_1
    · have d4 : decide (wrap64 (a0_0 * a0_1) < (l0_2.length : Int)) = false := decide_eq_false (by rw [hpr]; omega)
      have d4b : decide (a0_0 * a0_1 < (l0_2.length : Int)) = false := decide_eq_false (by omega)
      rw [decide_eq_true h4, Bool.true_and] at hr
      subst hr
      clear hpr h4
      go_enter Try.func17, Try.ntmps17
      go_wp2_with (first | (go_at_call 27; first | ((with_reducible refine (impl_within.calls a0_0 1 5 true _ (by rw [impl_IsValidStowage.within_eq, H1.out])).mono ?_); rintro e w' ⟨rfl, ⟨nd, rfl⟩⟩) | ((with_reducible refine (impl_within.calls a0_1 1 4 true _ (by rw [impl_IsValidStowage.within_eq, H2.out])).mono ?_); rintro e w' ⟨rfl, ⟨nd2, rfl⟩⟩)) | (go_at_call 43; refine (containsFunc0 44 (fun x => !Go.Proofs.Ytipahijdcgoemaa.U.inr x 1 9) A0_2 c0_2 l0_2 _ (Kd.C_below HR.out (by repeat (first | (with_reducible first | exact HB0.out | apply below_alloc | apply pw_below_drewN | apply below_drew1) | exact HB0.out))) (fun args W => enters_ Try.func44 (by kernel_rfl) rfl args W) (fun x W _ => impl_IsValidStowage.each x W)).mono ?_; rintro e w' ⟨rfl, ⟨nd3, rfl⟩⟩))
      go_ret
      exact ⟨rfl, by repeat (first | (with_reducible first | exact HB0.out | apply below_alloc | apply pw_below_drewN | apply below_drew1) | exact HB0.out)⟩
    · have d4 : decide (wrap64 (a0_0 * a0_1) < (l0_2.length : Int)) = true := decide_eq_true (by rw [hpr]; omega)
      have d4b : decide (a0_0 * a0_1 < (l0_2.length : Int)) = true := decide_eq_true (by omega)
      rw [decide_eq_false h4, Bool.false_and] at hr
      subst hr
      clear hpr h4
      go_enter Try.func17, Try.ntmps17
      go_wp2_with (first | (go_at_call 27; first | ((with_reducible refine (impl_within.calls a0_0 1 5 true _ (by rw [impl_IsValidStowage.within_eq, H1.out])).mono ?_); rintro e w' ⟨rfl, ⟨nd, rfl⟩⟩) | ((with_reducible refine (impl_within.calls a0_1 1 4 true _ (by rw [impl_IsValidStowage.within_eq, H2.out])).mono ?_); rintro e w' ⟨rfl, ⟨nd2, rfl⟩⟩)))
      go_ret
      exact ⟨rfl, by repeat (first | (with_reducible first | exact HB0.out | apply below_alloc | apply pw_below_drewN | apply below_drew1) | exact HB0.out)⟩
  · have d3 : decide (7 < l0_2.length) = true := decide_eq_true (by omega)
    have d3b : decide (7 < (l0_2.length : Int)) = true := decide_eq_true (by omega)
    rw [decide_eq_false h3, Bool.false_and] at hr
    subst hr
    clear hpr
    go_enter Try.func17, Try.ntmps17
    go_wp2_with (first | (go_at_call 27; first | ((with_reducible refine (impl_within.calls a0_0 1 5 true _ (by rw [impl_IsValidStowage.within_eq, H1.out])).mono ?_); rintro e w' ⟨rfl, ⟨nd, rfl⟩⟩) | ((with_reducible refine (impl_within.calls a0_1 1 4 true _ (by rw [impl_IsValidStowage.within_eq, H2.out])).mono ?_); rintro e w' ⟨rfl, ⟨nd2, rfl⟩⟩)))
    go_ret
    exact ⟨rfl, by repeat (first | (with_reducible first | exact HB0.out | apply below_alloc | apply pw_below_drewN | apply below_drew1) | exact HB0.out)⟩


end Go.Proofs.Ytipahijdcgoemaa.P
