-- Written by a program of this session over the translation (a variant of the printer, see wip/gen); Lean checks it.
import Derived.Test.YtoiboejefgejfaaDoorPx0
import Derived.Test.YtoiboejefgejfaaDoorPx22
namespace Go.Proofs.YtoiboejefgejfaaDoor.P
open Go.RowKit Go.Proofs.YtoiboejefgejfaaDoorW.PrintWords Go.Proofs.YtoiboejefgejfaaDoorW.PrintLast Go.Proofs.YtoiboejefgejfaaDoorW.PrintMore
attribute [local go_sem] Go.Proofs.YtoiboejefgejfaaDoor.V.isSome_setCell max2_int min2_int max_two min_two max_three min_three max_four min_four   -- for this text's walks alone
set_option linter.unusedVariables false
set_option linter.unusedSimpArgs false

/-! ### laws_markBay: function 7 -/
def laws_markBay.f (k : Nat) (a0_0 : Int) (l0_1 : List (List Int)) (a1 : Int) : Option (Int × List (List Int)) := laws_markIntSS.f k l0_1 a1
set_option maxHeartbeats 8000000 in
set_option maxRecDepth 100000 in
theorem laws_markBay.calls (k : Nat) (P0_1_ : Nat → Prop) (u9000_ : Value) (a0_0 : Int) (l0_1 : List (List Int)) (a1 : Int) (r1 : Int) (r2 : List (List Int)) (w0 w : World) (hB : Below w0.heap.size w0 w) (ho0_1 : Kd.S (Kd.slice 3 (Kd.int .i64)) 33 w w0.heap.size P0_1_ u9000_ l0_1) (h : laws_markBay.f k a0_0 l0_1 a1 = some (r1, r2)) :
    Calls Tryd.prog 7 #[.agg #[.int .i64 a0_0, u9000_], .int .i64 a1] w fun e w' => e = .returned (.int .i64 r1) ∧ Kd.S (Kd.slice 3 (Kd.int .i64)) 33 w' w0.heap.size (fun k_ => (P0_1_ k_ ∨ w.heap.size ≤ k_)) u9000_ r2 ∧ Below w0.heap.size w0 w' ∧ Kept w w' (fun k_ => P0_1_ k_) := by
  have hu := Tryd.underlying24
  obtain ⟨Ao, co, eo⟩ := Kd.S_slice ho0_1
  subst eo
  have HO := Aside0.mk ho0_1
  have HB := Aside0.mk hB
  have HK0 := Aside0.mk (Kept.refl w (fun k_ => P0_1_ k_))
  have H := Aside0.mk (show laws_markIntSS.f k l0_1 a1 = some (r1, r2) from h)
  clear ho0_1 hB h
  go_enter Tryd.func7, Tryd.ntmps7
  go_wp2_with (go_at_call 20; (with_reducible refine (laws_markIntSS.calls k P0_1_ _ l0_1 a1 r1 r2 w0 _ ?side1 ?side2 H.out).mono ?_); (case side1 => repeat (first | (with_reducible first | exact HB.out | apply below_alloc | apply pw_below_drewN | apply below_drew1) | exact HB.out)); (case side2 => (with_reducible repeat (first | apply Kd.S_alloc | apply Kd.S_drewN | apply Kd.S_drew)); exact HO.out); rintro e w8 ⟨rfl, hr8, hb8, hk8⟩; have n0_ := Aside0.mk hr8; have n1_ := Aside0.mk hb8; have n3_ := Aside0.mk ((fun {W_ : World} (_ : Kept W_ w8 (fun k_ => P0_1_ k_)) (h : Kept w W_ (fun k_ => P0_1_ k_)) => h.1) hk8 (by repeat (first | (with_reducible first | exact HK0.out | apply Kept.alloc | apply Kept.drewN | apply Kept.drew) | exact HK0.out))); have n2_ := Aside0.mk (Kept.then_ (S := fun k_ => P0_1_ k_) (w := w) (by repeat (first | (with_reducible first | exact HK0.out | apply Kept.alloc | apply Kept.drewN | apply Kept.drew) | exact HK0.out)) hk8 (fun k_ hk => Or.inl hk)); clear hr8 hb8 hk8)
  go_ret
  exact ⟨rfl, Kd.S_mono n0_.out (fun k_ hk => hk.imp id (fun h2 => Nat.le_trans n3_.out h2)), n1_.out, n2_.out⟩


end Go.Proofs.YtoiboejefgejfaaDoor.P
