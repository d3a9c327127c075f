-- Written by a program of this session over the translation (a variant of the printer, see wip/gen); Lean checks it.
import Derived.Test.YtfhdccfbokgajaaPx0
import Derived.Test.YtfhdccfbokgajaaPx4
import Derived.Test.YtfhdccfbokgajaaPx9
import Derived.Test.YtfhdccfbokgajaaU
namespace Go.Proofs.Ytfhdccfbokgajaa.P
open Go.RowKit Go.Proofs.YtfhdccfbokgajaaW.PrintWords Go.Proofs.YtfhdccfbokgajaaW.PrintLast Go.Proofs.YtfhdccfbokgajaaW.PrintMore
attribute [local go_sem] Go.Proofs.Ytfhdccfbokgajaa.V.isSome_setCell max2_int min2_int max_two min_two max_three min_three max_four min_four   -- for this text's walks alone
set_option linter.unusedVariables false
set_option linter.unusedSimpArgs false

/-! ### impl_IsValidColumn: function 17 -/
/-- A column is valid: 4 weights at most, each from 1 to 32000. -/
def okCol (l : List Int) : Bool := decide ((l.length : Int) ≤ 4) && !(l.any fun x => !Go.Proofs.Ytfhdccfbokgajaa.U.inr x 1 32000)
def impl_IsValidColumn.f (l0 : List Int) : Option (Bool) := some (okCol l0)
theorem impl_IsValidColumn.within_eq (a b c : Int) : impl_within.f a b c = some (Go.Proofs.Ytfhdccfbokgajaa.U.inr a b c) := by
  unfold impl_within.f Go.Proofs.Ytfhdccfbokgajaa.U.inr
  by_cases h : b ≤ a <;> simp [h]
set_option maxHeartbeats 8000000 in
set_option maxRecDepth 100000 in
theorem impl_IsValidColumn.each (x : Int) (W : World) : Calls Try.prog 58 #[.int .i64 x] W fun e W' => e = .returned (.bool (!Go.Proofs.Ytfhdccfbokgajaa.U.inr x 1 32000)) ∧ Drawn0 W W' := by
  go_enter Try.func58, Try.ntmps58
  go_wp2_with (first | (go_at_call 59; (with_reducible refine (impl_within.calls _ 1 32000 _ _ (impl_IsValidColumn.within_eq _ _ _)).mono ?_); rintro e w' ⟨rfl, ⟨nd, rfl⟩⟩))
  go_ret
  exact ⟨rfl, (Drawn0.refl _).step nd⟩
set_option maxHeartbeats 8000000 in
set_option maxRecDepth 100000 in
theorem impl_IsValidColumn.calls (A0 : Option Addr) (c0 : Nat) (l0 : List Int) (r : Bool) (w : World) (hr0 : Kd.C (Kd.int .i64) w A0 l0.length l0) (hc0 : l0.length ≤ c0) (h : impl_IsValidColumn.f l0 = some r) :
    Calls Try.prog 17 #[.slice A0 l0.length c0] w fun e w' => e = .returned (.bool r) ∧ Drawn0 w w' := by
  have HF := Aside0.mk (containsFunc0 58 (fun x => !Go.Proofs.Ytfhdccfbokgajaa.U.inr x 1 32000) A0 c0 l0 w hr0 (fun args W => enters_ Try.func58 (by kernel_rfl) rfl args W) (fun x W _ => impl_IsValidColumn.each x W))
  unfold impl_IsValidColumn.f okCol at h
  have hr := Option.some.inj h
  clear h hr0
  generalize l0.any (fun x => !Go.Proofs.Ytfhdccfbokgajaa.U.inr x 1 32000) = q at *
  by_cases h4 : l0.length ≤ 4
  · have hb : decide (l0.length ≤ 4) = true := decide_eq_true h4
    have hb2 : decide ((l0.length : Int) ≤ 4) = true := decide_eq_true (by omega)
    rw [hb2, Bool.true_and] at hr
    have HRr := Aside0.mk hr
    clear hr
    go_enter Try.func17, Try.ntmps17
    go_wp2_with (first | (go_at_call 57; refine HF.out.mono ?_; rintro e w' ⟨rfl, ⟨nd, rfl⟩⟩))
    go_ret
    exact ⟨by first | (rw [← HRr.out]; done) | (rw [← HRr.out]; rfl), (Drawn0.refl _).step nd⟩
  · have hb : decide (l0.length ≤ 4) = false := decide_eq_false h4
    have hb2 : decide ((l0.length : Int) ≤ 4) = false := decide_eq_false (by omega)
    rw [hb2, Bool.false_and] at hr
    have HRr := Aside0.mk hr
    clear hr
    go_enter Try.func17, Try.ntmps17
    go_wp2
    go_ret
    exact ⟨by first | (rw [← HRr.out]; done) | (rw [← HRr.out]; rfl), Drawn0.refl _⟩


end Go.Proofs.Ytfhdccfbokgajaa.P
