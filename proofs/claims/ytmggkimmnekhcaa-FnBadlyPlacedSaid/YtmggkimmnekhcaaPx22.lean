-- Written by a program of this session over the translation (a variant of the printer, see wip/gen); Lean checks it.
import Derived.Test.YtmggkimmnekhcaaPx0
import Derived.Test.YtmggkimmnekhcaaPx6
import Derived.Test.YtmggkimmnekhcaaPx7
import Derived.Test.YtmggkimmnekhcaaPx21
import Derived.Test.YtmggkimmnekhcaaU
namespace Go.Proofs.Ytmggkimmnekhcaa.P
open Go.RowKit Go.Proofs.YtmggkimmnekhcaaW.PrintWords Go.Proofs.YtmggkimmnekhcaaW.PrintLast Go.Proofs.YtmggkimmnekhcaaW.PrintMore
attribute [local go_sem] Go.Proofs.Ytmggkimmnekhcaa.V.isSome_setCell max2_int min2_int max_two min_two max_three min_three max_four min_four   -- for this text's walks alone
set_option linter.unusedVariables false
set_option linter.unusedSimpArgs false

/-! ### impl_hasStack: function 41 -/
/-- A valid yard that has all these stacks. -/
def okStacks (l : List (List Int)) (ss : List Int) : Bool := okYard l && !(ss.any fun s => !Go.Proofs.Ytmggkimmnekhcaa.U.inr s 0 ((l.length : Int) - 1))
def impl_hasStack.f (l0_0 : List (List Int)) (l1 : List Int) : Option (Bool) := some (okStacks l0_0 l1)
theorem impl_hasStack.within_eq (a b c : Int) : impl_within.f a b c = some (Go.Proofs.Ytmggkimmnekhcaa.U.inr a b c) := by
  unfold impl_within.f Go.Proofs.Ytmggkimmnekhcaa.U.inr
  by_cases h : b ≤ a <;> simp [h]
set_option maxHeartbeats 8000000 in
set_option maxRecDepth 100000 in
theorem impl_hasStack.each (A : Option Addr) (n c : Nat) (hn : n ≤ 9223372036854775807) (b : Nat) (x : Int) (W : World) (hb : W.cell? ⟨b, 0, none⟩ = some (.slice A n c)) :
    Calls Try.prog 65 #[.int .i64 x, .pointer (some ⟨b, 0, none⟩)] W fun e W' => e = .returned (.bool (!Go.Proofs.Ytmggkimmnekhcaa.U.inr x 0 ((n : Int) - 1))) ∧ Drawn0 W W' := by
  have hu := Try.underlying26
  have hw : wrap64 ((n : Int) - 1) = (n : Int) - 1 := Go.Proofs.Ytmggkimmnekhcaa.U.wr (by omega) (by omega)
  have HW := Aside0.mk hw
  clear hw
  go_enter Try.func65, Try.ntmps65
  go_wp2_with (first | (go_at_call 54; (with_reducible refine (impl_within.calls x 0 _ (Go.Proofs.Ytmggkimmnekhcaa.U.inr x 0 ((n : Int) - 1)) _ (by rw [impl_hasStack.within_eq]; try rw [HW.out])).mono ?_); rintro e w' ⟨rfl, ⟨nd, rfl⟩⟩))
  go_ret
  exact ⟨rfl, (Drawn0.refl _).step nd⟩
set_option maxHeartbeats 8000000 in
set_option maxRecDepth 100000 in
theorem impl_hasStack.calls (A0_0 : Option Addr) (c0_0 : Nat) (l0_0 : List (List Int)) (A1 : Option Addr) (c1 : Nat) (l1 : List Int) (r : Bool) (w : World) (hr0_0 : Kd.C (Kd.slice 3 (Kd.int .i64)) w A0_0 l0_0.length l0_0) (hc0_0 : l0_0.length ≤ c0_0) (hr1 : Kd.C (Kd.int .i64) w A1 l1.length l1) (hc1 : l1.length ≤ c1) (h : impl_hasStack.f l0_0 l1 = some r) :
    Calls Try.prog 41 #[.agg #[.slice A0_0 l0_0.length c0_0], .slice A1 l1.length c1] w fun e w' => e = .returned (.bool r) ∧ Below w.heap.size w w' := by
  have hln : l0_0.length ≤ 9223372036854775807 := hr0_0.2.1
  have hu := Try.underlying26
  unfold impl_hasStack.f okStacks at h
  have hr := Option.some.inj h
  clear h
  have HB0 := Aside0.mk (Below.refl w.heap.size w)
  have HR := Aside0.mk hr0_0
  have HR1 := Aside0.mk hr1
  clear hr0_0 hr1
  have hb1 : Below w.heap.size w (w.alloc (.cells #[.slice A0_0 l0_0.length c0_0] 26)) := below_alloc HB0.out _
  have HB1 := Aside0.mk hb1
  have hcell : (w.alloc (.cells #[.slice A0_0 l0_0.length c0_0] 26)).cell? ⟨w.heap.size, 0, none⟩ = some (.slice A0_0 l0_0.length c0_0) := (blk_cell (blk_new w (.cells #[.slice A0_0 l0_0.length c0_0] 26 (0, 0))) 0).trans rfl
  have HCell := Aside0.mk hcell
  have hlt1 : w.heap.size < (w.alloc (.cells #[.slice A0_0 l0_0.length c0_0] 26)).heap.size := by simp
  clear hb1 hcell
  cases hv : okYard l0_0
  · rw [hv, Bool.false_and] at hr
    subst hr
    have HV := Aside0.mk hv
    clear hv
    go_enter Try.func41, Try.ntmps41
    go_wp2_with (first | (go_at_call 28; refine (impl_IsValidYard.calls A0_0 c0_0 l0_0 false _ (Kd.C_below HR.out HB1.out) hc0_0 (by unfold impl_IsValidYard.f; rw [HV.out])).mono ?_; rintro e w' ⟨rfl, hbl⟩))
    go_ret
    exact ⟨rfl, HB1.out.trans (hbl.mono (Nat.le_of_lt hlt1))⟩
  · rw [hv, Bool.true_and] at hr
    subst hr
    have HV := Aside0.mk hv
    clear hv
    go_enter Try.func41, Try.ntmps41
    go_wp2_with (first | (go_at_call 28; refine (impl_IsValidYard.calls A0_0 c0_0 l0_0 true _ (Kd.C_below HR.out HB1.out) hc0_0 (by unfold impl_IsValidYard.f; rw [HV.out])).mono ?_; rintro e w' ⟨rfl, hbl⟩; have HBL := Aside0.mk hbl; clear hbl; have HB2 := Aside0.mk (HB1.out.trans (HBL.out.mono (Nat.le_of_lt hlt1))); have HC2 := Aside0.mk ((HBL.out.cell (p := ⟨w.heap.size, 0, none⟩) hlt1).trans HCell.out)) | (go_at_call 64; refine (containsFuncC 65 #[.pointer (some ⟨w.heap.size, 0, none⟩)] (fun s => !Go.Proofs.Ytmggkimmnekhcaa.U.inr s 0 ((l0_0.length : Int) - 1)) A1 c1 l1 _ (Kd.C_below HR1.out HB2.out) (fun args W => enters_ Try.func65 (by kernel_rfl) rfl args W) (fun x W hd => impl_hasStack.each A0_0 l0_0.length c0_0 hln w.heap.size x W ((hd.below.cell (p := ⟨w.heap.size, 0, none⟩) (World.block_lt_of_cell? _ _ HC2.out)).trans HC2.out))).mono ?_; rintro e w' ⟨rfl, ⟨nd, rfl⟩⟩))
    go_ret
    exact ⟨rfl, pw_below_drewN HB2.out nd⟩


end Go.Proofs.Ytmggkimmnekhcaa.P
