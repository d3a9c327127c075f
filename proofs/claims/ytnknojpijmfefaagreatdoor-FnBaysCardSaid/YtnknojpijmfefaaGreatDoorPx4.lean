-- Written by a program of this session over the translation (a variant of the printer, see wip/gen); Lean checks it.
import Derived.Test.YtnknojpijmfefaaGreatDoorPx0
import Derived.Test.YtnknojpijmfefaaGreatDoorPx1
import Derived.Test.YtnknojpijmfefaaGreatDoorPx3
import Derived.Test.YtnknojpijmfefaaGreatDoorU
namespace Go.Proofs.YtnknojpijmfefaaGreatDoor.P
open Go.RowKit Go.Proofs.YtnknojpijmfefaaGreatDoorW.PrintWords Go.Proofs.YtnknojpijmfefaaGreatDoorW.PrintLast Go.Proofs.YtnknojpijmfefaaGreatDoorW.PrintMore
attribute [local go_sem] Go.Proofs.YtnknojpijmfefaaGreatDoor.V.isSome_setCell max2_int min2_int max_two min_two max_three min_three max_four min_four   -- for this text's walks alone
set_option linter.unusedVariables false
set_option linter.unusedSimpArgs false

/-! ### spec_DrawLoadBox: function 5 -/
def spec_DrawLoadBox.f (k : Nat) (l0 : List Int) : Option (Int × (List (List Int)) × Int × Int) :=
  (spec_l1Cur_anyBay.f k l0 0 0).bind fun b => (spec_l1Cur_pick.f l0 b.2.2.1 b.2.2.2 5).bind fun p => (spec_l1Cur_pick.f l0 p.2.1 p.2.2 9).bind fun q => (spec_l1Cur_among.f l0 q.2.1 q.2.2 [90, 91, 99, 8, 0, 100]).bind fun a => some (b.1, b.2.1, wrap64 (p.1 - wrap64 (Int.tdiv q.1 8)), a.1)
theorem spec_DrawLoadBox.mono : ∀ a0 k, LeO (spec_DrawLoadBox.f k a0) (spec_DrawLoadBox.f (k + 1) a0) := by
  intro a0 k
  unfold spec_DrawLoadBox.f
  exact LeO.bind (spec_l1Cur_anyBay.mono _ _ _ k) (fun _ => LeO.refl _)
/-- What stands while a bay, a row and a number are drawn. -/
def LbW (w W : World) (gc gr : Nat) (c : List Int) (i s : Int) (v : Value) (ps : List (List Int)) : Prop :=
  IsS44 w W gc c i s ∧ Below w.heap.size w W ∧ W.heap[gr]? = some (.cells #[.int .i64 0, .slice none 0 0] 26 (0, 0)) ∧ w.heap.size ≤ gr ∧ Kd.S (Kd.slice 3 (Kd.int .i64)) 48 W w.heap.size (fun _ => True) v ps
theorem LbW.pick {w W W1 : World} {gc gr : Nat} {c : List Int} {i s i1 s1 : Int} {v : Value} {ps : List (List Int)} (h : LbW w W gc gr c i s v ps) (hi : IsS44 w W1 gc c i1 s1) (hb : Below w.heap.size w W1) (hk : KeepBut W W1 gc none) : LbW w W1 gc gr c i1 s1 v ps :=
  ⟨hi, hb, KeepBut.blk hk h.2.2.1 (Ne.symm (h.1.ne_blk h.2.2.1 (by decide))) (by simp), h.2.2.2.1, Kd.S_mono (Kd.S_keep (h.1.apartS h.2.2.2.2 (by decide)) hk (fun _ h => h.2)) (fun _ h => h.1)⟩
theorem LbW.below {w W W1 : World} {gc gr : Nat} {c : List Int} {i s : Int} {v : Value} {ps : List (List Int)} (h : LbW w W gc gr c i s v ps) (hb : Below W.heap.size W W1) : LbW w W1 gc gr c i s v ps :=
  ⟨h.1.below hb, below_step h.2.1 hb, blk_below h.2.2.1 hb, h.2.2.2.1, Kd.S_below h.2.2.2.2 hb⟩
set_option maxHeartbeats 8000000 in
set_option maxRecDepth 100000 in
theorem spec_DrawLoadBox.calls (k : Nat) (A0 : Option Addr) (c0 : Nat) (l0 : List Int) (r1 : Int) (r2 : List (List Int)) (r3 r4 : Int) (w : World) (hr0 : Kd.C (Kd.int .u8) w A0 l0.length l0) (hc0 : l0.length ≤ c0) (h : spec_DrawLoadBox.f k l0 = some (r1, r2, r3, r4)) :
    Calls Tryz.prog 5 #[.slice A0 l0.length c0] w fun e w' => ∃ v0_ : Value, e = .returned (.tuple #[.agg #[.int .i64 r1, v0_], .int .i64 r3, .int .i64 r4]) ∧ Kd.S (Kd.slice 3 (Kd.int .i64)) 48 w' w.heap.size (fun _ => True) v0_ r2 ∧ Below w.heap.size w w' := by
  have hu := Tryz.underlying26
  have HR0 := Aside0.mk hr0
  have HC0 := Aside0.mk hc0
  have HB := Aside0.mk (Below.refl w.heap.size w)
  clear hr0 hc0
  unfold spec_DrawLoadBox.f at h
  obtain ⟨⟨R, ps, i1, s1⟩, hA1, h⟩ := Option.bind_eq_some_iff.1 h
  obtain ⟨⟨p, i2, s2⟩, hA2, h⟩ := Option.bind_eq_some_iff.1 h
  obtain ⟨⟨q, i3, s3⟩, hA3, h⟩ := Option.bind_eq_some_iff.1 h
  obtain ⟨⟨a, i4, s4⟩, hA4, h⟩ := Option.bind_eq_some_iff.1 h
  dsimp only at hA2 hA3 hA4 h
  obtain ⟨ys, hys⟩ : ∃ l : List Int, l = [90, 91, 99, 8, 0, 100] := ⟨_, rfl⟩
  have Ny := Aside0.mk hys
  rw [← hys] at hA4
  clear hys
  have A1 := Aside0.mk hA1
  have A2 := Aside0.mk hA2
  have A3 := Aside0.mk hA3
  have A4 := Aside0.mk hA4
  clear hA1 hA2 hA3 hA4
  simp only [Option.some.injEq, Prod.mk.injEq] at h
  obtain ⟨rfl, rfl, rfl, rfl⟩ := h
  go_enter Tryz.func5, Tryz.ntmps5
  go_wp2_with (first | ((with_reducible refine gate_dst (N := 2) rfl ?_); (try (refine gate_guard (by rfl) ?_; dsimp only)); refine box_event ?hg (N := 2) ?hd (cs := #[.int .i64 0, .slice none 0 0]) (t := 26) ?hr ?_; (case hd => rfl); (case hg => rfl); (case hr => first | (go_simp; done) | (go_simp; rfl)); intro gr hgr w1 hbox hb; have HB1 := Aside0.mk (below_step HB.out hb); have BR1 := Aside0.mk hbox; have GR := Aside0.mk (show w.heap.size ≤ gr by rw [hgr]; exact Nat.le_refl _); clear hb hbox hgr) | ((with_reducible refine gate_dst (N := 8) rfl ?_); refine box_event ?hg (N := 8) ?hd (cs := #[.slice A0 l0.length c0, .int .i64 0, .int .u64 0]) (t := 44) ?hr ?_; (case hd => rfl); (case hg => rfl); (case hr => first | (go_simp; done) | (go_simp; rfl)); intro gc hg w2 hbox hb; have HI2 := Aside0.mk (show IsS44 w w2 gc l0 0 0 from ⟨A0, c0, hbox, by rw [hg]; exact HB1.out.size, HR0.out⟩); have HB2 := Aside0.mk (below_step HB1.out hb); have BR2 := Aside0.mk (blk_below BR1.out hb); clear hg hbox hb) | ((with_reducible refine gate_callee (f := 16) rfl ?_); refine goesL_ (some 10) rfl rfl Tryz.func16 (by kernel_rfl) rfl #[.pointer (some ⟨gc, 0, none⟩)] rfl gmp ?_; refine (spec_l1Cur_anyBay.calls k gc l0 0 0 R ps i1 s1 w _ HI2.out HB2.out A1.out).mono ?_; rintro e w3 ⟨v, rfl, ho, hi, hb, hk⟩; refine ⟨_, rfl, ?_⟩; obtain ⟨Av, cv, rfl⟩ := Kd.S_slice ho; have HS3 := Aside0.mk (show LbW w w3 gc gr l0 i1 s1 (.slice Av ps.length cv) ps from ⟨hi, hb, KeepBut.blk hk BR2.out (Ne.symm (IsS44.ne_blk HI2.out BR2.out (by decide))) (by simp), GR.out, Kd.S_lower ho (below_size HB2.out)⟩); clear ho hi hb hk) | ((with_reducible refine gate_callee (f := 17) rfl ?_); refine goesL_ (some 12) rfl rfl Tryz.func17 (by kernel_rfl) rfl #[.pointer (some ⟨gc, 0, none⟩), .int .i64 5] rfl gmp ?_; refine (spec_l1Cur_pick.calls gc l0 i1 s1 5 p i2 s2 w _ HS3.out.1 HS3.out.2.1 A2.out).mono ?_; rintro e w4 ⟨rfl, hi, hb, hk⟩; refine ⟨_, rfl, ?_⟩; have HS4 := Aside0.mk (HS3.out.pick hi hb hk); clear hi hb hk) | ((with_reducible refine gate_callee (f := 17) rfl ?_); refine goesL_ (some 14) rfl rfl Tryz.func17 (by kernel_rfl) rfl #[.pointer (some ⟨gc, 0, none⟩), .int .i64 9] rfl gmp ?_; refine (spec_l1Cur_pick.calls gc l0 i2 s2 9 q i3 s3 w _ HS4.out.1 HS4.out.2.1 A3.out).mono ?_; rintro e w5 ⟨rfl, hi, hb, hk⟩; refine ⟨_, rfl, ?_⟩; have HS5 := Aside0.mk (HS4.out.pick hi hb hk); clear hi hb hk) | ((with_reducible refine gate_dst (N := 18) rfl ?_); refine Kd.R_lit (Kd.int .i64) (w0 := w5) w5.heap.size 3 ?hg (N := 18) ?hd (xs := ([90, 91, 99, 8, 0, 100] : List Int)) (inner := [.int .i64 90, .int .i64 91, .int .i64 99, .int .i64 8, .int .i64 0, .int .i64 100]) (ok := fun _ => True) (okp := fun _ => True) ?hr ?hp (fun _ hk => hk) trivial (Below.refl _ _) (Nat.le_refl _) (by simp) ?_; (case hd => rfl); (case hg => rfl); (case hr => first | (go_simp; done) | (go_simp; rfl)); (case hp => exact (Reps.one (show Kd.M (Kd.int .i64) _ _ _ 90 [.int .i64 90] from rfl) (Reps.one (show Kd.M (Kd.int .i64) _ _ _ 91 [.int .i64 91] from rfl) (Reps.one (show Kd.M (Kd.int .i64) _ _ _ 99 [.int .i64 99] from rfl) (Reps.one (show Kd.M (Kd.int .i64) _ _ _ 8 [.int .i64 8] from rfl) (Reps.one (show Kd.M (Kd.int .i64) _ _ _ 0 [.int .i64 0] from rfl) (Reps.one (show Kd.M (Kd.int .i64) _ _ _ 100 [.int .i64 100] from rfl) (Reps.none _ _)))))))); intro v18 w6 ho hb hg_ hnew_; have HS6 := Aside0.mk (HS5.out.below hb); rw [← Ny.out] at ho; obtain ⟨A18, c18, rfl⟩ := Kd.R_slice ho; have HO6 := Aside0.mk ho; clear ho hb hg_ hnew_) | ((with_reducible refine gate_callee (f := 18) rfl ?_); refine goesL_ (some 19) rfl rfl Tryz.func18 (by kernel_rfl) rfl #[.pointer (some ⟨gc, 0, none⟩), .slice A18 ys.length c18] rfl gmp ?_; refine (spec_l1Cur_among.calls gc l0 i3 s3 A18 c18 ys a i4 s4 w _ HS6.out.1 HS6.out.2.1 (Kd.R_reads' HO6.out).2.2 (Kd.R_reads' HO6.out).2.1 (far_slice (IsS44.own_ne HS6.out.1 HO6.out (by decide))) A4.out).mono ?_; rintro e w7 ⟨rfl, hi, hb, hk⟩; refine ⟨_, rfl, ?_⟩; have HS7 := Aside0.mk (HS6.out.pick hi hb hk); have hz0 : w7.cell? ⟨gr, 0, none⟩ = some (.int .i64 0) := (blk_cell HS7.out.2.2.1 0).trans rfl; have hz1 : w7.cell? ⟨gr, 1, none⟩ = some (.slice none 0 0) := (blk_cell HS7.out.2.2.1 1).trans rfl; have hf0 := blk_frozen HS7.out.2.2.1 0; have hf1 := blk_frozen HS7.out.2.2.1 1; clear hi hb hk))
  refine bodyPost_ret (results_ctt rfl _ _ gr 26 #[.int .i64 R, .slice Av ps.length cv] (0, 0) _ rfl (by refine blk_put (cs := #[.int .i64 R, .slice none 0 0]) ?_ 1 _ rfl; refine blk_put (cs := #[.int .i64 0, .slice none 0 0]) ?_ 0 _ rfl; exact HS7.out.2.2.1) hu rfl (by kernel_rfl)) rfl ?_
  have hS8 := Kd.S_set HS7.out.2.2.2.2 HS7.out.2.2.1 (by decide) 0 (.int .i64 R)
  have hS9 := Kd.S_set hS8 (blk_put HS7.out.2.2.1 0 (.int .i64 R) rfl) (by decide) 1 (.slice Av ps.length cv)
  exact ⟨_, rfl, hS9, (HS7.out.2.1.setCell (p := ⟨gr, 0, none⟩) HS7.out.2.2.2.1 _).setCell (p := ⟨gr, 1, none⟩) HS7.out.2.2.2.1 _⟩


end Go.Proofs.YtnknojpijmfefaaGreatDoor.P
