-- Written by a program of this session over the translation (a variant of the printer, see wip/gen); Lean checks it.
import Derived.Test.YtemildnlfjijmaaPx0
import Derived.Lib.SliceRun
namespace Go.Proofs.Ytemildnlfjijmaa.P
open Go.RowKit Go.Proofs.YtemildnlfjijmaaW.PrintWords Go.Proofs.YtemildnlfjijmaaW.PrintLast Go.Proofs.YtemildnlfjijmaaW.PrintMore
attribute [local go_sem] Go.Proofs.Ytemildnlfjijmaa.V.isSome_setCell max2_int min2_int max_two min_two max_three min_three max_four min_four
set_option linter.unusedVariables false
set_option linter.unusedSimpArgs false
/-! ### slices_Clone_int_int: function 40 -/
def slices_Clone_int_int.f (l0 : List Int) : Option (List Int) := if l0.length < 17592186044416 then some l0 else none
set_option maxHeartbeats 8000000 in
set_option maxRecDepth 100000 in
theorem slices_Clone_int_int.calls (A0 : Option Addr) (c0 : Nat) (l0 : List Int) (r : List Int) (w : World) (hr0 : Kd.C (Kd.int .i64) w A0 l0.length l0) (hc0 : l0.length ≤ c0) (h : slices_Clone_int_int.f l0 = some r) :
    Calls Try.prog 40 #[.slice A0 l0.length c0] w fun e w' => ∃ v0_ : Value, e = .returned (v0_) ∧ Kd.R (Kd.int .i64) 3 w' w.heap.size (fun _ => True) v0_ r ∧ Below w.heap.size w w' := by
 have hu := Try.underlying30
 have hq := fun (w : World) (a : Option Addr) (n c n' c' : Nat) => Go.Lib.run_eql_slice_nil (P := Try.prog) w _ _ a n c n' c' hu
 have hln : l0.length ≤ 9223372036854775807 := hr0.2.1
 unfold slices_Clone_int_int.f at h
 by_cases c2 : l0.length < 17592186044416
 rotate_left
 ·rw [if_neg c2] at h
  cases h
 rw [if_pos c2] at h
 obtain rfl := Option.some.inj h
 clear h
 have LMc2 := Aside0.mk c2
 clear c2
 have HB := Aside0.mk (Below.refl w.heap.size w)
 have HR0 := Aside0.mk hr0
 have HC0 := Aside0.mk hc0
 cases A0 with
 | none =>
  have h0 : l0.length = 0 := by
    have h3 := hr0.2.2
    by_cases h4 : 0 < l0.length
    · exact absurd (h3 h4) (by rintro ⟨ad, h5, _⟩; cases h5)
    · omega
  have hl : l0 = [] := List.length_eq_zero_iff.1 h0
  subst hl
  clear hr0 hc0
  go_enter Try.func40, Try.ntmps40
  go_wp2
  go_ret
  exact ⟨_, rfl, Kd.R_nil _ _ _ _ _, HB.out⟩
 | some ad =>
  clear hr0 hc0
  obtain ⟨y288, hy288⟩ : ∃ y_ : List Int, y_ = (([] : List Int)) := ⟨_, rfl⟩
  have Ny288 := Aside0.mk hy288
  have LMy := Aside0.mk (show y288.length + l0.length < 17592186044416 by rw [hy288]; simpa using LMc2.out)
  clear LMc2
  have LMc2 := LMy
  clear LMy
  obtain ⟨y291, hy291⟩ : ∃ y_ : List Int, y_ = (y288 ++ l0) := ⟨_, rfl⟩
  have Ny291 := Aside0.mk hy291
  have Nfin := Aside0.mk (show y291 = l0 by rw [hy291, hy288]; rfl)
  clear hy288 hy291
  go_enter Try.func40, Try.ntmps40
  go_wp2_with (first | ((with_reducible refine gate_dst (N := 5) rfl ?_); refine Kd.R_lit (Kd.int .i64) _ 3 ?hg (N := 5) ?hd (xs := ([] : List Int)) (inner := []) (ok := fun _ => True) (okp := fun _ => True) ?hr ?hp (fun _ hk => hk) trivial (Below.refl _ _) (Nat.le_refl _) (by simp) ?_; (case hd | hg => rfl); (case hr => go_simp); (case hp => exact (Reps.none _ _)); intro v289 w3 ho4 hb hg_ hnew_; clear hg_ hnew_; (rw [← Ny288.out] at ho4 ); have HO290 := Aside0.mk (Kd.R_lower ho4 (below_size (by repeat ((with_reducible exact HB.out ) )))); replace HB := Aside0.mk (below_step (by repeat ((with_reducible exact HB.out ) )) hb); clear hb ho4) | ((with_reducible refine gate_builtin (b := .append) (xs := #[.tmp 5, .tmp 6]) rfl ?_); at_builtin; refine Kd.R_append_rows (Kd.int .i64) (w0 := w) w.heap.size rfl (.tmp 5) (.tmp 6) 30 3 (.int .i64 0) 8 rfl Try.underlying30 info3 rfl (by decide) (by omega) v289 y288 l0 _ _ _ (fun _ => True) (fun _ => False) rfl rfl ?aO ?aR (fun _ _ h => h) (fun _ h => h.elim) ?aF ?aB ?aS ?aL ?_; (case aR => repeat (exact (Kd.C_below HR0.out HB.out) )); (case aB => exact (by repeat ((with_reducible exact HB.out ) ))); (case aF => exact (fun _ _ => trivial)); (case aO => exact (by exact HO290.out)); (case aS => exact (below_size (by repeat ((with_reducible exact HB.out ) )))); (case aL => have := LMc2.out; omega); intro v292 w5 ho hb hg hat; rw [← Ny291.out] at ho; replace HB := Aside0.mk (hb); have HO293 := Aside0.mk (ho); clear HO290; clear ho hb hg hat))
  go_ret
  exact ⟨_, rfl, by rw [← Nfin.out]; exact HO293.out, HB.out⟩
end Go.Proofs.Ytemildnlfjijmaa.P
