-- Written by a program of this session over the translation (a variant of the printer, see wip/gen); Lean checks it.
import Derived.Test.YtnknojpijmfefaaGreatDoorPx0
import Derived.Test.YtnknojpijmfefaaGreatDoorPx1
import Derived.Test.YtnknojpijmfefaaGreatDoorPx2
import Derived.Test.YtnknojpijmfefaaGreatDoorPx28
import Derived.Test.YtnknojpijmfefaaGreatDoorPx29
import Derived.Test.YtnknojpijmfefaaGreatDoorU
namespace Go.Proofs.YtnknojpijmfefaaGreatDoor.P
open Go.RowKit Go.Proofs.YtnknojpijmfefaaGreatDoorW.PrintWords Go.Proofs.YtnknojpijmfefaaGreatDoorW.PrintLast Go.Proofs.YtnknojpijmfefaaGreatDoorW.PrintMore
attribute [local go_sem] Go.Proofs.YtnknojpijmfefaaGreatDoor.V.isSome_setCell max2_int min2_int max_two min_two max_three min_three max_four min_four   -- for this text's walks alone
set_option linter.unusedVariables false
set_option linter.unusedSimpArgs false

/-! ### spec_DrawParseBay: function 15 -/
def spec_DrawParseBay.f (k : Nat) (l0 : List Int) : Option ByteArray :=
  (spec_l1Cur_bay.f k l0 0 0).bind fun b => (spec_l9Text.f k b.1 b.2.1).bind fun s => (spec_l1Cur_one.f l0 b.2.2.1 b.2.2.2 4).bind fun o => if o.1 = true then (spec_l1Cur_spoilt.f l0 o.2.1 o.2.2 s ⟨#[46, 48, 32, 49, 10]⟩).bind fun p => some p.1 else some s
theorem spec_DrawParseBay.mono : ∀ a0 k, LeO (spec_DrawParseBay.f k a0) (spec_DrawParseBay.f (k + 1) a0) := by
  intro a0 k
  unfold spec_DrawParseBay.f
  exact LeO.bind (spec_l1Cur_bay.mono _ _ _ k) (fun _ => LeO.bind (spec_l9Text.mono _ _ k) (fun _ => LeO.refl _))
set_option maxHeartbeats 8000000 in
set_option maxRecDepth 100000 in
theorem spec_DrawParseBay.calls (k : Nat) (A0 : Option Addr) (c0 : Nat) (l0 : List Int) (r : ByteArray) (w : World) (hr0 : Kd.C (Kd.int .u8) w A0 l0.length l0) (hc0 : l0.length ≤ c0) (h : spec_DrawParseBay.f k l0 = some r) :
    Calls Tryz.prog 15 #[.slice A0 l0.length c0] w fun e w' => e = .returned (.string r) ∧ Below w.heap.size w w' := by
  have HR0 := Aside0.mk hr0
  have HC0 := Aside0.mk hc0
  have HB1 := Aside0.mk (Below.refl w.heap.size w)
  clear hr0 hc0
  unfold spec_DrawParseBay.f at h
  obtain ⟨⟨R, ps, i1, s1⟩, hA1, h⟩ := Option.bind_eq_some_iff.1 h
  obtain ⟨t, hA2, h⟩ := Option.bind_eq_some_iff.1 h
  obtain ⟨⟨b, i2, s2⟩, hA3, h⟩ := Option.bind_eq_some_iff.1 h
  dsimp only at hA2 hA3 h
  have A1 := Aside0.mk hA1
  have A2 := Aside0.mk hA2
  have A3 := Aside0.mk hA3
  clear hA1 hA2 hA3
  cases b with
  | false =>
    rw [if_neg (by decide)] at h
    injection h with h
    subst h
    go_enter Tryz.func15, Tryz.ntmps15
    go_wp2_with (first | ((with_reducible refine gate_dst (N := 7) rfl ?_); refine box_event ?hg (N := 7) ?hd (cs := #[.slice A0 l0.length c0, .int .i64 0, .int .u64 0]) (t := 44) ?hr ?_; (case hd => rfl); (case hg => rfl); (case hr => first | (go_simp; done) | (go_simp; rfl)); intro gc hg w2 hbox hb; have HI2 := Aside0.mk (show IsS44 w w2 gc l0 0 0 from ⟨A0, c0, hbox, by rw [hg]; exact HB1.out.size, HR0.out⟩); have HB2 := Aside0.mk (below_step HB1.out hb); clear hg hbox hb) | ((with_reducible refine gate_callee (f := 34) rfl ?_); refine goesL_ (some 9) rfl rfl Tryz.func34 (by kernel_rfl) rfl #[.pointer (some ⟨gc, 0, none⟩)] rfl gmp ?_; refine (spec_l1Cur_bay.calls k gc l0 0 0 R ps i1 s1 w _ HI2.out HB2.out A1.out).mono ?_; rintro e w3 ⟨v, rfl, ho, hi, hb, hk⟩; refine ⟨_, rfl, ?_⟩; obtain ⟨Av, cv, rfl⟩ := Kd.S_slice ho; have HI3 := Aside0.mk hi; have HB3 := Aside0.mk hb; have HO3 := Aside0.mk ho; clear ho hi hb hk) | (go_at_call 33; refine (spec_l9Text.calls k R Av cv ps t _ (Kd.S_reads' HO3.out).2.2 (Kd.S_reads' HO3.out).2.1 A2.out).mono ?_; rintro e w4 ⟨rfl, hb⟩; have HI4 := Aside0.mk (HI3.out.below hb); have HB4 := Aside0.mk (below_step HB3.out hb); clear hb) | ((with_reducible refine gate_callee (f := 35) rfl ?_); refine goesL_ (some 12) rfl rfl Tryz.func35 (by kernel_rfl) rfl #[.pointer (some ⟨gc, 0, none⟩), .int .i64 4] rfl gmp ?_; refine (spec_l1Cur_one.calls gc l0 i1 s1 4 false i2 s2 w _ HI4.out HB4.out A3.out).mono ?_; rintro e w5 ⟨rfl, hi, hb, hk⟩; refine ⟨_, rfl, ?_⟩; have HI5 := Aside0.mk hi; have HB5 := Aside0.mk hb; clear hi hb hk))
    go_ret
    exact ⟨rfl, HB5.out⟩
  | true =>
    rw [if_pos rfl] at h
    obtain ⟨⟨u, i3, s3⟩, hA4, h⟩ := Option.bind_eq_some_iff.1 h
    dsimp only at hA4 h
    injection h with h
    subst h
    have A4 := Aside0.mk hA4
    clear hA4
    go_enter Tryz.func15, Tryz.ntmps15
    go_wp2_with (first | ((with_reducible refine gate_dst (N := 7) rfl ?_); refine box_event ?hg (N := 7) ?hd (cs := #[.slice A0 l0.length c0, .int .i64 0, .int .u64 0]) (t := 44) ?hr ?_; (case hd => rfl); (case hg => rfl); (case hr => first | (go_simp; done) | (go_simp; rfl)); intro gc hg w2 hbox hb; have HI2 := Aside0.mk (show IsS44 w w2 gc l0 0 0 from ⟨A0, c0, hbox, by rw [hg]; exact HB1.out.size, HR0.out⟩); have HB2 := Aside0.mk (below_step HB1.out hb); clear hg hbox hb) | ((with_reducible refine gate_callee (f := 34) rfl ?_); refine goesL_ (some 9) rfl rfl Tryz.func34 (by kernel_rfl) rfl #[.pointer (some ⟨gc, 0, none⟩)] rfl gmp ?_; refine (spec_l1Cur_bay.calls k gc l0 0 0 R ps i1 s1 w _ HI2.out HB2.out A1.out).mono ?_; rintro e w3 ⟨v, rfl, ho, hi, hb, hk⟩; refine ⟨_, rfl, ?_⟩; obtain ⟨Av, cv, rfl⟩ := Kd.S_slice ho; have HI3 := Aside0.mk hi; have HB3 := Aside0.mk hb; have HO3 := Aside0.mk ho; clear ho hi hb hk) | (go_at_call 33; refine (spec_l9Text.calls k R Av cv ps t _ (Kd.S_reads' HO3.out).2.2 (Kd.S_reads' HO3.out).2.1 A2.out).mono ?_; rintro e w4 ⟨rfl, hb⟩; have HI4 := Aside0.mk (HI3.out.below hb); have HB4 := Aside0.mk (below_step HB3.out hb); clear hb) | ((with_reducible refine gate_callee (f := 35) rfl ?_); refine goesL_ (some 12) rfl rfl Tryz.func35 (by kernel_rfl) rfl #[.pointer (some ⟨gc, 0, none⟩), .int .i64 4] rfl gmp ?_; refine (spec_l1Cur_one.calls gc l0 i1 s1 4 true i2 s2 w _ HI4.out HB4.out A3.out).mono ?_; rintro e w5 ⟨rfl, hi, hb, hk⟩; refine ⟨_, rfl, ?_⟩; have HI5 := Aside0.mk hi; have HB5 := Aside0.mk hb; clear hi hb hk) | ((with_reducible refine gate_callee (f := 36) rfl ?_); refine goesL_ (some 15) rfl rfl Tryz.func36 (by kernel_rfl) rfl #[.pointer (some ⟨gc, 0, none⟩), .string t, .string ⟨#[46, 48, 32, 49, 10]⟩] rfl gmp ?_; refine (spec_l1Cur_spoilt.calls gc l0 i2 s2 t ⟨#[46, 48, 32, 49, 10]⟩ u i3 s3 w _ HI5.out HB5.out A4.out).mono ?_; rintro e w6 ⟨rfl, hi, hb, hk⟩; refine ⟨_, rfl, ?_⟩; have HB6 := Aside0.mk hb; clear hi hb hk))
    go_ret
    exact ⟨rfl, HB6.out⟩


end Go.Proofs.YtnknojpijmfefaaGreatDoor.P
