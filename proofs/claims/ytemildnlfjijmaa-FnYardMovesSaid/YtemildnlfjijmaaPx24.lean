-- Written by a program of this session over the translation (a variant of the printer, see wip/gen); Lean checks it.
import Derived.Test.YtemildnlfjijmaaPx0
import Derived.Test.YtemildnlfjijmaaPx1
import Derived.Test.YtemildnlfjijmaaPx7
import Derived.Test.YtemildnlfjijmaaU
import Derived.Test.YtemildnlfjijmaaDrw
namespace Go.Proofs.Ytemildnlfjijmaa.P
open Go.RowKit Go.Proofs.YtemildnlfjijmaaW.PrintWords Go.Proofs.YtemildnlfjijmaaW.PrintLast Go.Proofs.YtemildnlfjijmaaW.PrintMore
attribute [local go_sem] Go.Proofs.Ytemildnlfjijmaa.V.isSome_setCell max2_int min2_int max_two min_two max_three min_three max_four min_four
set_option linter.unusedVariables false
set_option linter.unusedSimpArgs false
/-! ### spec_DrawYardFindings: function 29 -/
def spec_DrawYardFindings.f (k : Nat) (l0 : List Int) : Option (List (List Int) × List S71 × Int) := (spec_l1Cur_filled.f k l0 0 0).bind fun b => some (b.1, b.2.1, b.2.2.1)
set_option maxHeartbeats 8000000 in
set_option maxRecDepth 100000 in
theorem spec_DrawYardFindings.calls (k : Nat) (A0 : Option Addr) (c0 : Nat) (l0 : List Int) (r1 : List (List Int)) (r2 : List S71) (r3 : Int) (w : World) (hr0 : Kd.C (Kd.int .u8) w A0 l0.length l0) (hc0 : l0.length ≤ c0) (h : spec_DrawYardFindings.f k l0 = some (r1, r2, r3)) :
    Calls Try.prog 29 #[.slice A0 l0.length c0] w fun e w' => ∃ v0_ v1_ : Value, e = .returned (.tuple #[.agg #[v0_], v1_, .int .i64 r3]) ∧ Kd.S (Kd.slice 3 (Kd.int .i64)) 30 w' w.heap.size (fun _ => True) v0_ r1 ∧ Kd.R k71 71 w' w.heap.size (fun _ => True) v1_ r2 ∧ Below w.heap.size w w' := by
 have hu := Try.underlying26
 have HR0 := Aside0.mk hr0
 have HC0 := Aside0.mk hc0
 have HB := Aside0.mk (Below.refl w.heap.size w)
 clear hr0 hc0
 unfold spec_DrawYardFindings.f at h
 obtain ⟨⟨y, ls, pl, i1, s1⟩, hA1, h⟩ := Option.bind_eq_some_iff.1 h
 have A1 := Aside0.mk hA1
 clear hA1
 simp only [Option.some.injEq, Prod.mk.injEq] at h
 obtain ⟨rfl, rfl, rfl⟩ := h
 go_enter Try.func29, Try.ntmps29
 go_wp2_with (first | ((with_reducible refine gate_dst (N := 2) rfl ?_); (try (refine gate_guard (by rfl) ?_; dsimp only)); refine box_event ?hg (N := 2) ?hd (cs := #[.slice none 0 0]) (t := 26) ?hr ?_; (case hd | hg => rfl); (case hr => go_simp); intro gr hgr w1 hbox hb; have HB1 := Aside0.mk (below_step HB.out hb); have BR1 := Aside0.mk hbox; have GR := Aside0.mk (show w.heap.size ≤ gr by rw [hgr]; exact Nat.le_refl _); clear hb hbox hgr) | ((with_reducible refine gate_dst (N := 8) rfl ?_); refine box_event ?hg (N := 8) ?hd (cs := #[.slice A0 l0.length c0, .int .i64 0, .int .u64 0]) (t := 47) ?hr ?_; (case hd | hg => rfl); (case hr => go_simp); intro gc hg w2 hbox hb; have HI2 := Aside0.mk (show IsS47 w w2 gc l0 0 0 from ⟨A0, c0, hbox, by rw [hg]; exact HB1.out.size, HR0.out⟩); have BR2 := Aside0.mk (blk_below BR1.out hb); have HB2 := Aside0.mk (below_step HB1.out hb); clear hg hbox hb) | ((with_reducible refine gate_callee (f := 15) rfl ?_); refine goesL_ (some 10) rfl rfl Try.func15 (by kernel_rfl) rfl #[.pointer (some ⟨gc, 0, none⟩)] rfl gmp ?_; refine (spec_l1Cur_filled.calls k gc l0 0 0 y ls pl i1 s1 w _ HI2.out HB2.out A1.out).mono ?_; rintro e w3 ⟨v, v', rfl, ho, ho', hi, hb, hk⟩; refine ⟨_, rfl, ?_⟩; obtain ⟨Av, cv, rfl⟩ := Kd.S_slice ho; obtain ⟨Al, cl, rfl⟩ := Kd.R_slice ho'; have HI3 := Aside0.mk hi; have HB3 := Aside0.mk hb; have HT3 := Aside0.mk (Kd.S_lower ho (below_size HB2.out)); have HL3 := Aside0.mk (Kd.R_lower ho' (below_size HB2.out)); have BR3 := Aside0.mk (KeepBut.blk hk BR2.out (Ne.symm (IsS47.ne_blk HI2.out BR2.out (by decide))) (by simp)); clear ho ho' hi hb hk; have d0_ : w3.cell? ⟨gr, 0, none⟩ = some (.slice none 0 0) := (blk_cell BR3.out 0).trans rfl; have f0_ := blk_frozen BR3.out 0))
 have HS := Kd.S_set HT3.out BR3.out (by decide) 0 (.slice Av y.length cv)
 have HSl := Kd.R_mono (Kd.R_far (p := ⟨gr, 0, none⟩) (Kd.R_types HL3.out BR3.out (by decide)) (fun _ h => h.2) (.slice Av y.length cv)) (fun _ h => h.1)
 refine bodyPost_ret (results_ctt rfl _ _ gr 26 #[.slice Av y.length cv] (0, 0) _ rfl (by exact blk_put BR3.out 0 _ rfl) Try.underlying26 rfl (by kernel_rfl)) rfl ?_
 exact ⟨_, _, rfl, HS, HSl, below_set HB3.out GR.out⟩
end Go.Proofs.Ytemildnlfjijmaa.P
namespace Go.Proofs.Ytemildnlfjijmaa.P
open Go.RowKit Go.Proofs.YtemildnlfjijmaaW.PrintWords Go.Proofs.YtemildnlfjijmaaW.PrintLast Go.Proofs.YtemildnlfjijmaaW.PrintMore
attribute [local go_sem] Go.Proofs.Ytemildnlfjijmaa.V.isSome_setCell max2_int min2_int max_two min_two max_three min_three max_four min_four
set_option linter.unusedVariables false
set_option linter.unusedSimpArgs false
/-! ### spec_DrawHelpfulMoves: function 10 -/
def spec_DrawHelpfulMoves.f (k : Nat) (l0 : List Int) : Option (List (List Int) × List S71 × Int) := spec_DrawYardFindings.f k l0
set_option maxHeartbeats 8000000 in
set_option maxRecDepth 100000 in
theorem spec_DrawHelpfulMoves.calls (k : Nat) (A0 : Option Addr) (c0 : Nat) (l0 : List Int) (r1 : List (List Int)) (r2 : List S71) (r3 : Int) (w : World) (hr0 : Kd.C (Kd.int .u8) w A0 l0.length l0) (hc0 : l0.length ≤ c0) (h : spec_DrawHelpfulMoves.f k l0 = some (r1, r2, r3)) :
    Calls Try.prog 10 #[.slice A0 l0.length c0] w fun e w' => ∃ v0_ v1_ : Value, e = .returned (.tuple #[.agg #[v0_], v1_, .int .i64 r3]) ∧ Kd.S (Kd.slice 3 (Kd.int .i64)) 30 w' w.heap.size (fun _ => True) v0_ r1 ∧ Kd.R k71 71 w' w.heap.size (fun _ => True) v1_ r2 ∧ Below w.heap.size w w' := by
 have hu := Try.underlying26
 have HR0 := Aside0.mk hr0
 have HC0 := Aside0.mk hc0
 have HB := Aside0.mk (Below.refl w.heap.size w)
 clear hr0 hc0
 unfold spec_DrawHelpfulMoves.f at h
 have A1 := Aside0.mk h
 clear h
 go_enter Try.func10, Try.ntmps10
 go_wp2_with (first | ((with_reducible refine gate_dst (N := 2) rfl ?_); (try (refine gate_guard (by rfl) ?_; dsimp only)); refine box_event ?hg (N := 2) ?hd (cs := #[.slice none 0 0]) (t := 26) ?hr ?_; (case hd | hg => rfl); (case hr => go_simp); intro gr hgr w1 hbox hb; have HB1 := Aside0.mk (below_step HB.out hb); have BR1 := Aside0.mk hbox; have GR := Aside0.mk (show w.heap.size ≤ gr by rw [hgr]; exact Nat.le_refl _); clear hb hbox hgr) | (go_at_call 29; refine (spec_DrawYardFindings.calls k A0 c0 l0 r1 r2 r3 _ (Kd.C_below HR0.out HB1.out) HC0.out A1.out).mono ?_; rintro e w3 ⟨v, v', rfl, ho, ho', hb⟩; obtain ⟨Av, cv, rfl⟩ := Kd.S_slice ho; obtain ⟨Al, cl, rfl⟩ := Kd.R_slice ho'; have HT3 := Aside0.mk (Kd.S_lower ho HB1.out.size); have HL3 := Aside0.mk (Kd.R_lower ho' HB1.out.size); have BR3 := Aside0.mk (blk_below BR1.out hb); have HB3 := Aside0.mk (below_step HB1.out hb); clear ho ho' hb; have d0_ : w3.cell? ⟨gr, 0, none⟩ = some (.slice none 0 0) := (blk_cell BR3.out 0).trans rfl; have f0_ := blk_frozen BR3.out 0))
 have HS := Kd.S_set HT3.out BR3.out (by decide) 0 (.slice Av r1.length cv)
 have HSl := Kd.R_mono (Kd.R_far (p := ⟨gr, 0, none⟩) (Kd.R_types HL3.out BR3.out (by decide)) (fun _ h => h.2) (.slice Av r1.length cv)) (fun _ h => h.1)
 refine bodyPost_ret (results_ctt rfl _ _ gr 26 #[.slice Av r1.length cv] (0, 0) _ rfl (by exact blk_put BR3.out 0 _ rfl) Try.underlying26 rfl (by kernel_rfl)) rfl ?_
 exact ⟨_, _, rfl, HS, HSl, below_set HB3.out GR.out⟩
end Go.Proofs.Ytemildnlfjijmaa.P
