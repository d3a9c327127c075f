-- Written by a program of this session over the translation (a variant of the printer, see wip/gen); Lean checks it.
import Derived.Test.YtkahifpcimoogaaPx0
import Derived.Test.YtkahifpcimoogaaPx1
import Derived.Test.YtkahifpcimoogaaPx3
import Derived.Test.YtkahifpcimoogaaDrw
namespace Go.Proofs.Ytkahifpcimoogaa.P
open Go.RowKit Go.Proofs.YtkahifpcimoogaaW.PrintWords Go.Proofs.YtkahifpcimoogaaW.PrintLast Go.Proofs.YtkahifpcimoogaaW.PrintMore
attribute [local go_sem] Go.Proofs.Ytkahifpcimoogaa.V.isSome_setCell max2_int min2_int max_two min_two max_three min_three max_four min_four   -- for this text's walks alone
set_option linter.unusedVariables false
set_option linter.unusedSimpArgs false

/-! ### spec_DrawIsValidLoads: function 41 -/
def spec_DrawIsValidLoads.f (k : Nat) (l0 : List Int) : Option (List (S38)) := (spec_l1Cur_loads.f k l0 0 0).bind fun b5 => some b5.1
theorem spec_DrawIsValidLoads.mono : ∀ a0 k, LeO (spec_DrawIsValidLoads.f k a0) (spec_DrawIsValidLoads.f (k + 1) a0) := by
  intro a0 k
  unfold spec_DrawIsValidLoads.f
  repeat' first
    | (with_reducible apply spec_l1Cur_loads.mono)
    | (with_reducible exact LeO.refl _)
    | (with_reducible exact LeO.none _)
    | (with_reducible refine LeO.ite ?_ ?_)
    | (with_reducible refine LeO.bind ?_ (fun _ => ?_))
    | exact LeO.refl _
    | exact LeO.none _
    | refine LeO.ite ?_ ?_
    | refine LeO.bind ?_ (fun _ => ?_)
set_option maxHeartbeats 8000000 in
set_option maxRecDepth 100000 in
theorem spec_DrawIsValidLoads.calls (k : Nat) (A0 : Option Addr) (c0 : Nat) (l0 : List Int) (r1 : List (S38)) ( w : World) (hr0 : Kd.C (Kd.int .u8) w A0 l0.length l0) (hc0 : l0.length ≤ c0) (h : spec_DrawIsValidLoads.f k l0 = some r1) :
    Calls Try.prog 41 #[.slice A0 l0.length c0] w fun e w' => ∃ v0_ : Value, e = .returned (v0_) ∧ Kd.R k38 38 w' w.heap.size (fun _ => True) v0_ r1 ∧ Below w.heap.size w w' := by
  have hu56 := Try.underlying56
  have HR0 := Aside0.mk hr0
  have HC0 := Aside0.mk hc0
  have HB := Aside0.mk (Below.refl w.heap.size w)
  clear hr0 hc0
  unfold spec_DrawIsValidLoads.f at h
  obtain ⟨⟨t1, t3, t4⟩, A2_, h_⟩ := Option.bind_eq_some_iff.1 h
  clear h
  have h := h_
  clear h_
  dsimp only at h
  have A2 := Aside0.mk A2_
  clear A2_
  have h2_ := Option.some.inj h
  clear h
  (try simp only [Prod.mk.injEq] at h2_)
  subst h2_
  go_enter Try.func41, Try.ntmps41
  go_wp2_with (first | ((with_reducible refine gate_dst (N := 6) rfl ?_); refine box_event ?hg (N := 6) ?hd (cs := #[.slice A0 l0.length c0, .int .i64 0, .int .u64 0]) (t := 56) ?hr ?_; (case hd => rfl); (case hg => rfl); (case hr => first | (go_simp; done) | (go_simp; rfl)); intro gc hg w1_ hbox hb; have HI := Aside0.mk (show IsS56 w w1_ gc l0 0 0 from ⟨A0, c0, hbox, by rw [hg]; exact Nat.le_refl _, HR0.out⟩); have n_ := Aside0.mk (below_step HB.out hb); clear HB; have HB := n_; clear n_ hg hbox hb) | ((with_reducible refine gate_dst (N := 8) rfl ?_); (with_reducible refine gate_callee (f := 30) rfl ?_); refine goesL_ (some 8) rfl rfl Try.func30 (by kernel_rfl) rfl #[.pointer (some ⟨gc, 0, none⟩)] rfl gmp ?_; (with_reducible refine (spec_l1Cur_loads.calls k gc l0 0 0 t1 t3 t4 w _ HI.out HB.out A2.out).mono ?_); rintro e w2_ ⟨Vzt1, rfl, hozt1, hi, hb, hk⟩; refine ⟨_, rfl, ?_⟩; have n0_ := Aside0.mk (Kd.R_lower hozt1 (below_size HB.out)); have n1_ := Aside0.mk hi; have n2_ := Aside0.mk hb; (try clear HOzt1); (try clear HI); (try clear HB); have HOzt1 := n0_; have HI := n1_; have HB := n2_; clear n0_ n1_ n2_; (try clear hi); (try clear hb); (try clear hk); clear hozt1; obtain ⟨Azt1, czt1, ezt1_⟩ := Kd.R_slice HOzt1.out; subst ezt1_))
  go_ret
  exact ⟨_, (by first | rfl | (simp; done)), Kd.R_mono HOzt1.out (fun _ _ => trivial), HB.out⟩

end Go.Proofs.Ytkahifpcimoogaa.P
