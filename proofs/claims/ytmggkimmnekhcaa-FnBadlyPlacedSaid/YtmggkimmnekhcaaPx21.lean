-- Written by a program of this session over the translation (a variant of the printer, see wip/gen); Lean checks it.
import Derived.Test.YtmggkimmnekhcaaPx0
import Derived.Test.YtmggkimmnekhcaaPx20
namespace Go.Proofs.Ytmggkimmnekhcaa.P
open Go.RowKit Go.Proofs.YtmggkimmnekhcaaW.PrintWords Go.Proofs.YtmggkimmnekhcaaW.PrintLast Go.Proofs.YtmggkimmnekhcaaW.PrintMore
attribute [local go_sem] Go.Proofs.Ytmggkimmnekhcaa.V.isSome_setCell max2_int min2_int max_two min_two max_three min_three max_four min_four   -- for this text's walks alone
set_option linter.unusedVariables false
set_option linter.unusedSimpArgs false

/-! ### slices_ContainsFunc_int_int: function 64 -/
set_option maxHeartbeats 8000000 in
set_option maxRecDepth 100000 in
/-- slices.ContainsFunc at a function value that captures nothing. -/
theorem containsFunc0 (g : FuncId) (p : Int → Bool) (A0 : Option Addr) (c0 : Nat) (l0 : List Int) (w : World) (hr0 : Kd.C (Kd.int .i64) w A0 l0.length l0) (hcf : ∀ (args : Array Value) (W : World), (callFunc g args).run Try.prog W = .ok (.enter g args) W) (hp : ∀ (x : Int) (W : World), Drawn0 w W → Calls Try.prog g #[.int .i64 x] W fun e W' => e = .returned (.bool (p x)) ∧ Drawn0 W W') :
    Calls Try.prog 64 #[.slice A0 l0.length c0, .func (.func g) #[] #[]] w fun e w' => e = .returned (.bool (l0.any p)) ∧ Drawn0 w w' := by
  have HF := Aside0.mk (indexFunc0 g p A0 c0 l0 w hr0 hcf hp)
  clear hr0 hp hcf
  rw [← idxF_any p l0 0]
  generalize idxF p l0 0 = q at *
  go_enter Try.func64, Try.ntmps64
  go_wp2_with (first | (go_at_call 75; refine HF.out.mono ?_; rintro e w' ⟨rfl, ⟨nd, rfl⟩⟩))
  go_ret
  exact ⟨rfl, (Drawn0.refl _).step nd⟩
set_option maxHeartbeats 8000000 in
set_option maxRecDepth 100000 in
/-- slices.ContainsFunc at a function value that captures something, asked at the members alone. -/
theorem containsFuncM (g : FuncId) (cap : Array Value) (p : Int → Bool) (A0 : Option Addr) (c0 : Nat) (l0 : List Int) (w : World) (hr0 : Kd.C (Kd.int .i64) w A0 l0.length l0) (hcf : ∀ (args : Array Value) (W : World), (callFunc g args).run Try.prog W = .ok (.enter g args) W) (hp : ∀ (x : Int), x ∈ l0 → ∀ (W : World), Drawn0 w W → Calls Try.prog g (#[.int .i64 x] ++ cap) W fun e W' => e = .returned (.bool (p x)) ∧ Drawn0 W W') :
    Calls Try.prog 64 #[.slice A0 l0.length c0, .func (.func g) #[] cap] w fun e w' => e = .returned (.bool (l0.any p)) ∧ Drawn0 w w' := by
  have HF := Aside0.mk (indexFuncC g cap p A0 c0 l0 w hr0 hcf hp)
  clear hr0 hp hcf
  rw [← idxF_any p l0 0]
  generalize idxF p l0 0 = q at *
  go_enter Try.func64, Try.ntmps64
  go_wp2_with (first | (go_at_call 75; refine HF.out.mono ?_; rintro e w' ⟨rfl, ⟨nd, rfl⟩⟩))
  go_ret
  exact ⟨rfl, (Drawn0.refl _).step nd⟩
theorem containsFuncC (g : FuncId) (cap : Array Value) (p : Int → Bool) (A0 : Option Addr) (c0 : Nat) (l0 : List Int) (w : World) (hr0 : Kd.C (Kd.int .i64) w A0 l0.length l0) (hcf : ∀ (args : Array Value) (W : World), (callFunc g args).run Try.prog W = .ok (.enter g args) W) (hp : ∀ (x : Int) (W : World), Drawn0 w W → Calls Try.prog g (#[.int .i64 x] ++ cap) W fun e W' => e = .returned (.bool (p x)) ∧ Drawn0 W W') :
    Calls Try.prog 64 #[.slice A0 l0.length c0, .func (.func g) #[] cap] w fun e w' => e = .returned (.bool (l0.any p)) ∧ Drawn0 w w' :=
  containsFuncM g cap p A0 c0 l0 w hr0 hcf (fun x _ => hp x)


end Go.Proofs.Ytmggkimmnekhcaa.P
