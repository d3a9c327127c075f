-- Written by a program of this session over the translation (a variant of the printer, see wip/gen); Lean checks it.
import Derived.Test.YtmggkimmnekhcaaPx0
import Derived.Test.YtmggkimmnekhcaaPx1
import Derived.Test.YtmggkimmnekhcaaPx4
namespace Go.Proofs.Ytmggkimmnekhcaa.P
open Go.RowKit Go.Proofs.YtmggkimmnekhcaaW.PrintWords Go.Proofs.YtmggkimmnekhcaaW.PrintLast Go.Proofs.YtmggkimmnekhcaaW.PrintMore
attribute [local go_sem] Go.Proofs.Ytmggkimmnekhcaa.V.isSome_setCell max2_int min2_int max_two min_two max_three min_three max_four min_four   -- for this text's walks alone
set_option linter.unusedVariables false
set_option linter.unusedSimpArgs false

/-! ### spec_DrawChooseStack: function 15 -/
--IMPOList (List Int) × Int Derived.Test.YtmggkimmnekhcaaU
--IMPOList (List Int) × Int Derived.Test.YtmggkimmnekhcaaDrw
def spec_DrawChooseStack.f (k : Nat) (l0 : List Int) : Option (List (List Int) × Int) := (spec_l1Cur_anyYard.f k l0 0 0).bind fun b => (spec_l1Cur_among.f l0 b.2.1 b.2.2 [1, 10, 11, 12, 50, 99, 3, 0, 100]).bind fun q => some (b.1, q.1)
theorem spec_DrawChooseStack.mono : ∀ a0 k, LeO (spec_DrawChooseStack.f k a0) (spec_DrawChooseStack.f (k + 1) a0) := by
  intro a0 k
  unfold spec_DrawChooseStack.f
  exact LeO.bind (spec_l1Cur_anyYard.mono _ _ _ k) (fun _ => LeO.refl _)
set_option maxHeartbeats 8000000 in
set_option maxRecDepth 100000 in
theorem spec_DrawChooseStack.calls (k : Nat) (A0 : Option Addr) (c0 : Nat) (l0 : List Int) (r1 : List (List Int)) (r2 : Int) (w : World) (hr0 : Kd.C (Kd.int .u8) w A0 l0.length l0) (hc0 : l0.length ≤ c0) (h : spec_DrawChooseStack.f k l0 = some (r1, r2)) :
    Calls Try.prog 15 #[.slice A0 l0.length c0] w fun e w' => ∃ v0_ : Value, e = .returned (.tuple #[.agg #[v0_], .int .i64 r2]) ∧ Kd.S (Kd.slice 3 (Kd.int .i64)) 28 w' w.heap.size (fun _ => True) v0_ r1 ∧ Below w.heap.size w w' := by
  have hu := Try.underlying26
  have HR0 := Aside0.mk hr0
  have HC0 := Aside0.mk hc0
  have HB := Aside0.mk (Below.refl w.heap.size w)
  clear hr0 hc0
  unfold spec_DrawChooseStack.f at h
  obtain ⟨⟨y, i1, s1⟩, hA1, h⟩ := Option.bind_eq_some_iff.1 h
  have A1 := Aside0.mk hA1
  clear hA1
  dsimp only at h
  obtain ⟨⟨x, i2, s2⟩, hA2, h⟩ := Option.bind_eq_some_iff.1 h
  have A2 := Aside0.mk hA2
  clear hA2
  simp only [Option.some.injEq, Prod.mk.injEq] at h
  obtain ⟨rfl, rfl⟩ := h
  go_enter Try.func15, Try.ntmps15
  go_wp2_with (first | ((with_reducible refine gate_dst (N := 2) rfl ?_); (try (refine gate_guard (by rfl) ?_; dsimp only)); refine box_event ?hg (N := 2) ?hd (cs := #[.slice none 0 0]) (t := 26) ?hr ?_; (case hd => rfl); (case hg => rfl); (case hr => first | (go_simp; done) | (go_simp; rfl)); intro gr hgr w1 hbox hb; have HB1 := Aside0.mk (below_step HB.out hb); have BR1 := Aside0.mk hbox; have GR := Aside0.mk (show w.heap.size ≤ gr by rw [hgr]; exact Nat.le_refl _); clear hb hbox hgr) | ((with_reducible refine gate_dst (N := 7) rfl ?_); refine box_event ?hg (N := 7) ?hd (cs := #[.slice A0 l0.length c0, .int .i64 0, .int .u64 0]) (t := 58) ?hr ?_; (case hd => rfl); (case hg => rfl); (case hr => first | (go_simp; done) | (go_simp; rfl)); intro gc hg w2 hbox hb; have HI2 := Aside0.mk (show IsS58 w w2 gc l0 0 0 from ⟨A0, c0, hbox, by rw [hg]; exact HB1.out.size, HR0.out⟩); have BR2 := Aside0.mk (blk_below BR1.out hb); have HB2 := Aside0.mk (below_step HB1.out hb); clear hg hbox hb) | ((with_reducible refine gate_callee (f := 35) rfl ?_); refine goesL_ (some 9) rfl rfl Try.func35 (by kernel_rfl) rfl #[.pointer (some ⟨gc, 0, none⟩)] rfl gmp ?_; refine (spec_l1Cur_anyYard.calls k gc l0 0 0 y i1 s1 w _ HI2.out HB2.out A1.out).mono ?_; rintro e w3 ⟨v, rfl, ho, hi, hb, hk⟩; refine ⟨_, rfl, ?_⟩; obtain ⟨Av, cv, rfl⟩ := Kd.S_slice ho; have HI3 := Aside0.mk hi; have HB3 := Aside0.mk hb; have HO3 := Aside0.mk (Kd.S_lower ho (below_size HB2.out)); have BR3 := Aside0.mk (KeepBut.blk hk BR2.out (Ne.symm (IsS58.ne_blk HI2.out BR2.out (by decide))) (by simp)); clear ho hi hb hk) | ((with_reducible refine gate_dst (N := 11) rfl ?_); refine Kd.R_lit (Kd.int .i64) _ 3 ?hg (N := 11) ?hd (xs := ([1, 10, 11, 12, 50, 99, 3, 0, 100] : List Int)) (inner := [.int .i64 1, .int .i64 10, .int .i64 11, .int .i64 12, .int .i64 50, .int .i64 99, .int .i64 3, .int .i64 0, .int .i64 100]) (ok := fun _ => True) (okp := fun _ => True) ?hr ?hp (fun _ hk => hk) trivial (Below.refl _ _) (Nat.le_refl _) (by simp) ?_; (case hd => rfl); (case hg => rfl); (case hr => first | (go_simp; done) | (go_simp; rfl)); (case hp => exact (Reps.one (show Kd.M (Kd.int .i64) _ _ _ 1 [.int .i64 1] from rfl) (Reps.one (show Kd.M (Kd.int .i64) _ _ _ 10 [.int .i64 10] from rfl) (Reps.one (show Kd.M (Kd.int .i64) _ _ _ 11 [.int .i64 11] from rfl) (Reps.one (show Kd.M (Kd.int .i64) _ _ _ 12 [.int .i64 12] from rfl) (Reps.one (show Kd.M (Kd.int .i64) _ _ _ 50 [.int .i64 50] from rfl) (Reps.one (show Kd.M (Kd.int .i64) _ _ _ 99 [.int .i64 99] from rfl) (Reps.one (show Kd.M (Kd.int .i64) _ _ _ 3 [.int .i64 3] from rfl) (Reps.one (show Kd.M (Kd.int .i64) _ _ _ 0 [.int .i64 0] from rfl) (Reps.one (show Kd.M (Kd.int .i64) _ _ _ 100 [.int .i64 100] from rfl) (Reps.none _ _))))))))))); intro v11 w4 h11 hb hg_ hnew_; obtain ⟨A11, c11, rfl⟩ := Kd.R_slice h11; have HL4 := Aside0.mk h11; have HI4 := Aside0.mk (IsS58.below HI3.out hb); have HB4 := Aside0.mk (below_step HB3.out hb); have HO4 := Aside0.mk (Kd.S_below HO3.out hb); have BR4 := Aside0.mk (blk_below BR3.out hb); clear h11 hb hg_ hnew_) | ((with_reducible refine gate_callee (f := 36) rfl ?_); refine goesL_ (some 12) rfl rfl Try.func36 (by kernel_rfl) rfl #[.pointer (some ⟨gc, 0, none⟩), .slice A11 ([1, 10, 11, 12, 50, 99, 3, 0, 100] : List Int).length c11] rfl gmp ?_; refine (spec_l1Cur_among.calls gc l0 i1 s1 A11 c11 [1, 10, 11, 12, 50, 99, 3, 0, 100] x i2 s2 w _ HI4.out HB4.out (Kd.R_reads' HL4.out).2.2 (Kd.R_reads' HL4.out).2.1 (fun ad e _ hb => IsS58.own_ne HI4.out HL4.out (by decide) (by rw [e, ← hb]; rfl)) A2.out).mono ?_; rintro e w5 ⟨rfl, hi, hb, hk⟩; refine ⟨_, rfl, ?_⟩; have HB5 := Aside0.mk hb; have HO5 := Aside0.mk (Kd.S_mono (Kd.S_keep (IsS58.apartS HI4.out HO4.out (by decide)) hk (fun _ h => h.2)) (fun _ h => h.1)); have BR5 := Aside0.mk (KeepBut.blk hk BR4.out (Ne.symm (IsS58.ne_blk HI4.out BR4.out (by decide))) (by simp)); have d0_ : w5.cell? ⟨gr, 0, none⟩ = some (.slice none 0 0) := (blk_cell BR5.out 0).trans rfl; have f0_ := blk_frozen BR5.out 0; clear hi hb hk))
  have HS := Kd.S_set HO5.out BR5.out (by decide) 0 (.slice Av y.length cv)
  refine bodyPost_ret (results_ct rfl _ _ gr 26 #[.slice Av y.length cv] (0, 0) _ rfl (by exact blk_put BR5.out 0 _ rfl) Try.underlying26 rfl (by kernel_rfl)) rfl ?_
  exact ⟨_, rfl, HS, below_set HB5.out GR.out⟩


end Go.Proofs.Ytmggkimmnekhcaa.P
