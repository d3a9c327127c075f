-- Written by a program of this session over the translation (a variant of the printer, see wip/gen); Lean checks it.
import Derived.Test.YtemildnlfjijmaaPx0
import Derived.Test.YtemildnlfjijmaaPx1
import Derived.Test.YtemildnlfjijmaaPx7
import Derived.Test.YtemildnlfjijmaaPx8
import Derived.Test.YtemildnlfjijmaaU
import Derived.Test.YtemildnlfjijmaaDrw
namespace Go.Proofs.Ytemildnlfjijmaa.P
open Go.RowKit Go.Proofs.YtemildnlfjijmaaW.PrintWords Go.Proofs.YtemildnlfjijmaaW.PrintLast Go.Proofs.YtemildnlfjijmaaW.PrintMore
attribute [local go_sem] Go.Proofs.Ytemildnlfjijmaa.V.isSome_setCell max2_int min2_int max_two min_two max_three min_three max_four min_four
set_option linter.unusedVariables false
set_option linter.unusedSimpArgs false
/-! ### spec_DrawAllowedStacks: function 5 -/
/-- The number that is put: the last one that stands nowhere, before the cursor stops the search. -/
def dasL (k : Nat) (c : List Int) (y : List (List Int)) : Nat → Nat → Int → Int → Int → Option (Int × Int × Int)
  | 0, _, n, i, s => some (n, i, s)
  | m + 1, t, n, i, s => (spec_l1Cur_one.f c i s 6).bind fun o => if o.1 = true then some (n, o.2.1, o.2.2) else (spec_l5Find.f k y (t : Int)).bind fun q => dasL k c y m (t + 1) (if q.1 < 0 then (t : Int) else n) o.2.1 o.2.2
def spec_DrawAllowedStacks.f (k : Nat) (l0 : List Int) : Option (List (List Int) × List S71 × Int × Int) := (spec_l1Cur_filled.f k l0 0 0).bind fun b => if b.2.1.length < 1000000 then (spec_l1Cur_pick.f l0 b.2.2.2.1 b.2.2.2.2 (wrap64 ((b.2.1.length : Int) + 2))).bind fun p => (spec_l1Cur_pick.f l0 p.2.1 p.2.2 12).bind fun q => (dasL k l0 b.1 b.2.1.length 1 (wrap64 (p.1 - wrap64 (Int.tdiv q.1 11))) q.2.1 q.2.2).bind fun x => some (b.1, b.2.1, b.2.2.1, x.1) else none
theorem results_cttt {fn : Func} {p u v x : Tmp} {ty : TypeId} (h : fn.results = #[.cell p ty, .tmp u, .tmp v, .tmp x]) (tmps : Array Value) (w : World) (g : Nat) (t : TypeId) (cs : Array Value) (fr : Nat × Nat) (hd : ∀ d : TypeDesc, Try.prog.underlying ty = some d → (match d with | .struct _ | .array _ _ => true | _ => false) = true) (d : TypeDesc) (hp : tmps.getD p undef = .pointer (some ⟨g, 0, none⟩)) (hg : w.heap[g]? = some (.cells cs t fr)) (hu : Try.prog.underlying ty = some d) (hi : (Try.prog.info? ty).map (·.size) = some cs.size) :
    (results fn tmps).run Try.prog w = .ok (.tuple #[.agg cs, tmps.getD u undef, tmps.getD v undef, tmps.getD x undef]) w := by
 have hp' : tmps[p]?.getD undef = .pointer (some ⟨g, 0, none⟩) := by simpa using hp
 simp [results, h, hp', asAddr, run_loadVar_row w g t ty cs fr d hg hu (by have h_ := hd d hu; cases d <;> first | rfl | cases h_) hi]
/-- What stands: the cursor; the yard's own cell; the result's; the rows. -/
def FiW (w W : World) (g gs gr : Nat) (c : List Int) (i s : Int) (vT vL : Value) (y : List (List Int)) (l : List S71) : Prop :=
  IsS47 w W g c i s ∧ Below w.heap.size w W ∧ W.heap[gs]? = some (.cells #[vT] 26 (0, 0)) ∧ W.heap[gr]? = some (.cells #[.slice none 0 0] 26 (0, 0)) ∧ w.heap.size ≤ gr ∧ Kd.S (Kd.slice 3 (Kd.int .i64)) 30 W w.heap.size (fun _ => True) vT y ∧ Kd.R k71 71 W w.heap.size (fun _ => True) vL l
theorem FiW.pick {w W W1 : World} {g gs gr : Nat} {c : List Int} {i s i1 s1 : Int} {vT vL : Value} {y : List (List Int)} {l : List S71} (h : FiW w W g gs gr c i s vT vL y l) (hi : IsS47 w W1 g c i1 s1) (hb : Below w.heap.size w W1) (hk : KeepBut W W1 g none) : FiW w W1 g gs gr c i1 s1 vT vL y l := by
 obtain ⟨h1, h2, h3, h4, h5, h6, h7⟩ := h
 exact ⟨hi, hb, hk.blk h3 (Ne.symm (h1.ne_blk h3 (by decide))) (by simp), hk.blk h4 (Ne.symm (h1.ne_blk h4 (by decide))) (by simp), h5, Kd.S_mono (Kd.S_keep (h1.apartS h6 (by decide)) hk (fun _ h => h.2)) (fun _ h => h.1), Kd.R_mono (Kd.R_keep (h1.apart h7 (by decide)) hk (fun _ h => h.2)) (fun _ h => h.1)⟩
theorem FiW.below {w W W1 : World} {g gs gr : Nat} {c : List Int} {i s : Int} {vT vL : Value} {y : List (List Int)} {l : List S71} (h : FiW w W g gs gr c i s vT vL y l) (hb : Below W.heap.size W W1) : FiW w W1 g gs gr c i s vT vL y l := by
 obtain ⟨h1, h2, h3, h4, h5, h6, h7⟩ := h
 exact ⟨h1.below hb, below_step h2 hb, blk_below h3 hb, blk_below h4 hb, h5, Kd.S_below h6 hb, Kd.R_below h7 hb⟩
set_option maxHeartbeats 8000000 in
set_option maxRecDepth 100000 in
theorem spec_DrawAllowedStacks.calls (k : Nat) (A0 : Option Addr) (c0 : Nat) (l0 : List Int) (r1 : List (List Int)) (r2 : List S71) (r3 r4 : Int) (w : World) (hr0 : Kd.C (Kd.int .u8) w A0 l0.length l0) (hc0 : l0.length ≤ c0) (h : spec_DrawAllowedStacks.f k l0 = some (r1, r2, r3, r4)) :
    Calls Try.prog 5 #[.slice A0 l0.length c0] w fun e w' => ∃ v0_ v1_ : Value, e = .returned (.tuple #[.agg #[v0_], v1_, .int .i64 r3, .int .i64 r4]) ∧ Kd.S (Kd.slice 3 (Kd.int .i64)) 30 w' w.heap.size (fun _ => True) v0_ r1 ∧ Kd.R k71 71 w' w.heap.size (fun _ => True) v1_ r2 ∧ Below w.heap.size w w' := by
 have hu := Try.underlying26
 have HR0 := Aside0.mk hr0
 have HC0 := Aside0.mk hc0
 have HB := Aside0.mk (Below.refl w.heap.size w)
 clear hr0 hc0
 unfold spec_DrawAllowedStacks.f at h
 obtain ⟨⟨y, ls, pl, i1, s1⟩, hA1, h⟩ := Option.bind_eq_some_iff.1 h
 dsimp only at h
 split at h
 case isFalse => cases h
 case isTrue hsm =>
 have HSm := Aside0.mk hsm
 clear hsm
 obtain ⟨⟨pa, i2, s2⟩, hA2, h⟩ := Option.bind_eq_some_iff.1 h
 dsimp only at h
 obtain ⟨⟨pb, i3, s3⟩, hA3, h⟩ := Option.bind_eq_some_iff.1 h
 dsimp only at h
 obtain ⟨⟨nF, iF, sF⟩, hA4, h⟩ := Option.bind_eq_some_iff.1 h
 have A1 := Aside0.mk hA1
 have A2 := Aside0.mk hA2
 have A3 := Aside0.mk hA3
 have A4 := Aside0.mk hA4
 clear hA1 hA2 hA3 hA4
 simp only [Option.some.injEq, Prod.mk.injEq] at h
 obtain ⟨rfl, rfl, rfl, rfl⟩ := h
 go_enter Try.func5, Try.ntmps5
 go_upto_region 3 with (first | ((with_reducible refine gate_dst (N := 2) rfl ?_); (try (refine gate_guard (by rfl) ?_; dsimp only)); refine box_event ?hg (N := 2) ?hd (cs := #[.slice none 0 0]) (t := 26) ?hr ?_; (case hd | hg => rfl); (case hr => go_simp); intro gr hgr w1 hbox hb; have HB1 := Aside0.mk (below_step HB.out hb); have BR1 := Aside0.mk hbox; have GR := Aside0.mk (show w.heap.size ≤ gr by rw [hgr]; exact Nat.le_refl _); clear hb hbox hgr) | ((with_reducible refine gate_dst (N := 16) rfl ?_); refine box_event ?hg (N := 16) ?hd (cs := #[.slice A0 l0.length c0, .int .i64 0, .int .u64 0]) (t := 47) ?hr ?_; (case hd | hg => rfl); (case hr => go_simp); intro gc hg w2 hbox hb; have HI2 := Aside0.mk (show IsS47 w w2 gc l0 0 0 from ⟨A0, c0, hbox, by rw [hg]; exact HB1.out.size, HR0.out⟩); have BR2 := Aside0.mk (blk_below BR1.out hb); have HB2 := Aside0.mk (below_step HB1.out hb); clear hg hbox hb) | ((with_reducible refine gate_callee (f := 15) rfl ?_); refine goesL_ (some 19) rfl rfl Try.func15 (by kernel_rfl) rfl #[.pointer (some ⟨gc, 0, none⟩)] rfl gmp ?_; refine (spec_l1Cur_filled.calls k gc l0 0 0 y ls pl i1 s1 w _ HI2.out HB2.out A1.out).mono ?_; rintro e w3 ⟨v, v', rfl, ho, ho', hi, hb, hk⟩; refine ⟨_, rfl, ?_⟩; obtain ⟨Av, cv, rfl⟩ := Kd.S_slice ho; obtain ⟨Al, cl, rfl⟩ := Kd.R_slice ho'; have HI3 := Aside0.mk hi; have HB3 := Aside0.mk hb; have HT3 := Aside0.mk (Kd.S_lower ho (below_size HB2.out)); have HL3 := Aside0.mk (Kd.R_lower ho' (below_size HB2.out)); have BR3 := Aside0.mk (KeepBut.blk hk BR2.out (Ne.symm (IsS47.ne_blk HI2.out BR2.out (by decide))) (by simp)); clear ho ho' hi hb hk))
 have HY := Aside0.mk (show FiW w (w3.alloc (.cells #[.slice Av y.length cv] 26)) gc w3.heap.size gr l0 i1 s1 (.slice Av y.length cv) (.slice Al ls.length cl) y ls from ⟨IsS47.alloc HI3.out _, below_alloc HB3.out _, blk_new w3 (.cells #[.slice Av y.length cv] 26 (0, 0)), blk_alloc BR3.out _, GR.out, Kd.S_alloc HT3.out _, Kd.R_alloc HL3.out _⟩)
 clear HB HB1 BR1 HI2 BR2 HB2 HI3 HB3 HT3 HL3 BR3 A1 GR
 generalize w3.alloc (.cells #[.slice Av y.length cv] 26) = w4 at HY ⊢
 generalize w3.heap.size = gs at HY ⊢
 go_wp2_with (first | ((with_reducible refine gate_callee (f := 16) rfl ?_); refine goesL_ (some 27) rfl rfl Try.func16 (by kernel_rfl) rfl #[.pointer (some ⟨gc, 0, none⟩), .int .i64 (wrap64 ((ls.length : Int) + 2))] rfl gmp ?_; refine (spec_l1Cur_pick.calls gc l0 i1 s1 (wrap64 ((ls.length : Int) + 2)) pa i2 s2 w _ HY.out.1 HY.out.2.1 A2.out).mono ?_; rintro e w5 ⟨rfl, hi, hb, hk⟩; refine ⟨_, rfl, ?_⟩; have HY6 := Aside0.mk (FiW.pick HY.out hi hb hk); clear hi hb hk HY) | ((with_reducible refine gate_callee (f := 16) rfl ?_); refine goesL_ (some 29) rfl rfl Try.func16 (by kernel_rfl) rfl #[.pointer (some ⟨gc, 0, none⟩), .int .i64 12] rfl gmp ?_; refine (spec_l1Cur_pick.calls gc l0 i2 s2 12 pb i3 s3 w _ HY6.out.1 HY6.out.2.1 A3.out).mono ?_; rintro e w6 ⟨rfl, hi, hb, hk⟩; refine ⟨_, rfl, ?_⟩; have HY9 := Aside0.mk (FiW.pick HY6.out hi hb hk); clear hi hb hk HY6))
 go_loopw [10, 11] (fun v10 v11 wr => ∃ (t : Nat) (n i s : Int), v10 = .int .i64 n ∧ v11 = .int .i64 (t : Int) ∧ Aside0 (1 ≤ t ∧ t ≤ ls.length + 1) ∧ Aside0 (dasL k l0 y (ls.length + 1 - t) t n i s = some (nF, iF, sF)) ∧ Aside0 (FiW w wr gc gs gr l0 i s (.slice Av y.length cv) (.slice Al ls.length cl) y ls)) (fun v10 v11 wr => ls.length + 1 - (intOf v11).toNat)
 case atStart => exact ⟨1, _, i3, s3, rfl, rfl, ⟨Nat.le_refl _, by omega⟩, A4, HY9⟩
 clear A4 HY9
 obtain ⟨t, n, i, s, rfl, rfl, HLe, HD, HY⟩ := hrel
 rename World => wr
 have hLl : ls.length ≤ 9223372036854775806 := by have := HSm.out; omega
 by_cases hlt : t ≤ ls.length
 rotate_left
 ·have hltb : decide ((t : Int) ≤ (ls.length : Int)) = false := decide_eq_false (by omega)
  have hltc : decide (t ≤ ls.length) = false := decide_eq_false hlt
  have h1 := HD.out
  rw [show ls.length + 1 - t = 0 by omega, dasL] at h1
  simp only [Option.some.injEq, Prod.mk.injEq] at h1
  obtain ⟨rfl, rfl, rfl⟩ := h1
  clear HD hLl
  go_upto_region 10 with (fail)
  have d0_ : wr.cell? ⟨gr, 0, none⟩ = some (.slice none 0 0) := (blk_cell HY.out.2.2.2.1 0).trans rfl
  have e0_ : wr.cell? ⟨gs, 0, none⟩ = some (.slice Av y.length cv) := (blk_cell HY.out.2.2.1 0).trans rfl
  have f0_ := blk_frozen HY.out.2.2.2.1 0
  go_wp2
  have HS := Kd.S_set HY.out.2.2.2.2.2.1 HY.out.2.2.2.1 (by decide) 0 (.slice Av y.length cv)
  have HSl := Kd.R_mono (Kd.R_far (p := ⟨gr, 0, none⟩) (Kd.R_types HY.out.2.2.2.2.2.2 HY.out.2.2.2.1 (by decide)) (fun _ h => h.2) (.slice Av y.length cv)) (fun _ h => h.1)
  refine bodyPost_ret (results_cttt rfl _ _ gr 26 #[.slice Av y.length cv] (0, 0) (fun d e => by rw [Try.underlying26] at e; cases e; rfl) _ rfl (by exact blk_put HY.out.2.2.2.1 0 _ rfl) Try.underlying26 (by kernel_rfl)) rfl ?_
  exact ⟨_, _, rfl, HS, HSl, below_set HY.out.2.1 HY.out.2.2.2.2.1⟩
 have hltb : decide ((t : Int) ≤ (ls.length : Int)) = true := decide_eq_true (by omega)
 have hltc : decide (t ≤ ls.length) = true := decide_eq_true hlt
 have hwt : IntKind.i64.wrap ((t : Int) + 1) = ((t + 1 : Nat) : Int) := (i64_w _).trans (Go.Proofs.Ytemildnlfjijmaa.U.wsucc (n := 9223372036854775807) (by omega) (Nat.le_refl _))
 have h1 := HD.out
 rw [show ls.length + 1 - t = (ls.length + 1 - (t + 1)) + 1 by omega, dasL] at h1
 obtain ⟨⟨b, i2, s2⟩, h2, h1⟩ := Option.bind_eq_some_iff.1 h1
 dsimp only at h1
 have AO := Aside0.mk h2
 have HLt := Aside0.mk hlt
 clear h2 HD hlt hLl
 cases b with
 | true =>
  rw [if_pos rfl] at h1
  simp only [Option.some.injEq, Prod.mk.injEq] at h1
  obtain ⟨rfl, rfl, rfl⟩ := h1
  go_upto_region 10 with (go_at_call 17; refine (spec_l1Cur_one.calls gc l0 i s 6 true i2 s2 w _ HY.out.1 HY.out.2.1 AO.out).mono ?_; rintro e w7 ⟨rfl, hi, hb, hk⟩; have HY7 := Aside0.mk (FiW.pick HY.out hi hb hk); clear hi hb hk HY; have cb1 : w7.cell? ⟨gs, 0, none⟩ = some (.slice Av y.length cv) := (blk_cell HY7.out.2.2.1 0).trans rfl)
  clear cb1
  have d0_ : w7.cell? ⟨gr, 0, none⟩ = some (.slice none 0 0) := (blk_cell HY7.out.2.2.2.1 0).trans rfl
  have e0_ : w7.cell? ⟨gs, 0, none⟩ = some (.slice Av y.length cv) := (blk_cell HY7.out.2.2.1 0).trans rfl
  have f0_ := blk_frozen HY7.out.2.2.2.1 0
  go_wp2
  have HS := Kd.S_set HY7.out.2.2.2.2.2.1 HY7.out.2.2.2.1 (by decide) 0 (.slice Av y.length cv)
  have HSl := Kd.R_mono (Kd.R_far (p := ⟨gr, 0, none⟩) (Kd.R_types HY7.out.2.2.2.2.2.2 HY7.out.2.2.2.1 (by decide)) (fun _ h => h.2) (.slice Av y.length cv)) (fun _ h => h.1)
  refine bodyPost_ret (results_cttt rfl _ _ gr 26 #[.slice Av y.length cv] (0, 0) (fun d e => by rw [Try.underlying26] at e; cases e; rfl) _ rfl (by exact blk_put HY7.out.2.2.2.1 0 _ rfl) Try.underlying26 (by kernel_rfl)) rfl ?_
  exact ⟨_, _, rfl, HS, HSl, below_set HY7.out.2.1 HY7.out.2.2.2.2.1⟩
 | false =>
  rw [if_neg (by simp)] at h1
  obtain ⟨⟨q, q2⟩, h2, h1⟩ := Option.bind_eq_some_iff.1 h1
  dsimp only at h1
  have AQ := Aside0.mk h2
  have HD := Aside0.mk h1
  clear h1 h2
  by_cases hq : q < 0
  rotate_left
  ·have hqb : decide (q < 0) = false := decide_eq_false hq
   rw [if_neg hq] at HD
   clear hq
   go_wp2_with (first | (go_at_call 17; refine (spec_l1Cur_one.calls gc l0 i s 6 false i2 s2 w _ HY.out.1 HY.out.2.1 AO.out).mono ?_; rintro e w7 ⟨rfl, hi, hb, hk⟩; have HY7 := Aside0.mk (FiW.pick HY.out hi hb hk); clear hi hb hk HY; have cb1 : w7.cell? ⟨gs, 0, none⟩ = some (.slice Av y.length cv) := (blk_cell HY7.out.2.2.1 0).trans rfl) | (go_at_call 18; refine (spec_l5Find.calls k Av cv y (t : Int) q q2 _ (Kd.S_reads' HY7.out.2.2.2.2.2.1).2.2 (Kd.S_reads' HY7.out.2.2.2.2.2.1).2.1 AQ.out).mono ?_; rintro e w8 ⟨rfl, hb⟩; have HY8 := Aside0.mk (FiW.below HY7.out hb); clear hb HY7 cb1))
   go_roundw
   case rel => exact ⟨t + 1, n, i2, s2, rfl, by rfl , ⟨by omega, by have := HLt.out; omega⟩, HD, HY8⟩
   case measure => have := HLt.out; have := HLe.out; (simp [intOf]; omega) 
  have hqb : decide (q < 0) = true := decide_eq_true hq
  rw [if_pos hq] at HD
  clear hq
  go_wp2_with (first | (go_at_call 17; refine (spec_l1Cur_one.calls gc l0 i s 6 false i2 s2 w _ HY.out.1 HY.out.2.1 AO.out).mono ?_; rintro e w7 ⟨rfl, hi, hb, hk⟩; have HY7 := Aside0.mk (FiW.pick HY.out hi hb hk); clear hi hb hk HY; have cb1 : w7.cell? ⟨gs, 0, none⟩ = some (.slice Av y.length cv) := (blk_cell HY7.out.2.2.1 0).trans rfl) | (go_at_call 18; refine (spec_l5Find.calls k Av cv y (t : Int) q q2 _ (Kd.S_reads' HY7.out.2.2.2.2.2.1).2.2 (Kd.S_reads' HY7.out.2.2.2.2.2.1).2.1 AQ.out).mono ?_; rintro e w8 ⟨rfl, hb⟩; have HY8 := Aside0.mk (FiW.below HY7.out hb); clear hb HY7 cb1))
  go_roundw
  case rel => exact ⟨t + 1, (t : Int), i2, s2, rfl, by rfl , ⟨by omega, by have := HLt.out; omega⟩, HD, HY8⟩
  case measure => have := HLt.out; have := HLe.out; (simp [intOf]; omega) 
end Go.Proofs.Ytemildnlfjijmaa.P
