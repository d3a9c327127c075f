-- Written by a program of this session over the translation (a variant of the printer, see wip/gen); Lean checks it.
import Derived.Test.YtipahijdcgoemaaPx0
import Derived.Test.YtipahijdcgoemaaPx4
import Derived.Test.YtipahijdcgoemaaPx5
import Derived.Test.YtipahijdcgoemaaPx8
import Derived.Test.YtipahijdcgoemaaPx19
import Derived.Test.YtipahijdcgoemaaU
namespace Go.Proofs.Ytipahijdcgoemaa.P
open Go.RowKit Go.Proofs.YtipahijdcgoemaaW.PrintWords Go.Proofs.YtipahijdcgoemaaW.PrintLast Go.Proofs.YtipahijdcgoemaaW.PrintMore
attribute [local go_sem] Go.Proofs.Ytipahijdcgoemaa.V.isSome_setCell max2_int min2_int max_two min_two max_three min_three max_four min_four
set_option linter.unusedVariables false
set_option linter.unusedSimpArgs false
/-! ### impl_BestStowage: function 15 -/
/-- What the callback does with a plan: the best so far and its number. -/
def bsStep (k : Nat) (a0 a1 : Int) (l0 : List Int) (s : List Int × Int) (p : List Int) : Option (List Int × Int) := (impl_planBay.f k a0 a1 l0 p).bind fun b => if b.2.2 = true then (impl_shiftedBoxes.f a0 a1 l0 b.1 b.2.1).bind fun sh => if s.2 < 0 ∨ (sh.length : Int) < s.2 then some (p, (sh.length : Int)) else some s else some s
theorem bsStep_mono (a0 a1 : Int) (l0 : List Int) (k : Nat) (s : List Int × Int) (p : List Int) : LeO (bsStep k a0 a1 l0 s p) (bsStep (k + 1) a0 a1 l0 s p) := LeO.bind (impl_planBay.mono _ _ _ _ k) (fun _ => LeO.refl _)
def impl_BestStowage.f (k : Nat) (a0 a1 : Int) (l0 : List Int) : Option (List Int × Int × Bool) := (impl_IsValidStowage.f a0 a1 l0).bind fun t => if t = true then (if l0.length ≤ 1000 ∧ 0 ≤ a0 ∧ a0 ≤ 1000 then (chGo a0.toNat (bsStep k a0 a1 l0) l0.length [] (([] : List Int), (-1 : Int))).bind fun s => some (s.1, s.2, true) else none) else some ([], 0, false)
theorem impl_BestStowage.mono : ∀ a0 a1 a2 k, LeO (impl_BestStowage.f k a0 a1 a2) (impl_BestStowage.f (k + 1) a0 a1 a2) := by
 intro a0 a1 a2 k
 unfold impl_BestStowage.f
 refine LeO.bind (LeO.refl _) (fun t => LeO.ite (LeO.ite (LeO.bind (chGo_mono _ (fun s p => bsStep_mono a0 a1 a2 k s p) _ _ _) (fun _ => LeO.refl _)) (LeO.refl _)) (LeO.refl _))
set_option maxHeartbeats 8000000 in
set_option maxRecDepth 100000 in
/-- THE CALLBACK -/
theorem impl_BestStowage.each (kk : Nat) (a0 a1 : Int) (A : Option Addr) (c : Nat) (l0 : List Int) (w W0 : World) (hC : Kd.C (Kd.int .i64) w A l0.length l0) (hc : l0.length ≤ c) (hB : Below w.heap.size w W0) (bS bL bB : Nat) (hS : W0.heap[bS]? = some (.cells #[.int .i64 a0, .int .i64 a1, .slice A l0.length c] 26 (0, 0)))
    (hwL : w.heap.size ≤ bL) (hwB : w.heap.size ≤ bB) (hSL : bS ≠ bL) (hSB : bS ≠ bB) (hLB : bL ≠ bB) (hlL : bL < W0.heap.size) (hlB : bB < W0.heap.size) (base size : Nat) (hb0 : W0.heap.size ≤ base) :
    CbC (BsI W0 bB bL) (bsStep kk a0 a1 l0) (fun k => k = bB ∨ k = bL) 40 #[.pointer (some ⟨bS, 0, none⟩), .pointer (some ⟨bL, 0, none⟩), .pointer (some ⟨bB, 0, none⟩)] base size := by
 intro W v p s s' ok hR hp hI h
 obtain ⟨A1, c1, rfl⟩ := Kd.R_slice hR
 obtain ⟨h1, h2, h3, h4, vB, h5, h6, h7⟩ := hI
 have hOK := BsI_ok hlB hlL
 have HI := Aside0.mk (show BsI W0 bB bL (fun k => ok k ∧ some k ≠ (Value.slice A1 p.length c1).ownBlock) W s from ⟨h1, h2, h3, h4, vB, h5, h6, h7⟩)
 have hw : Below w.heap.size w W := ⟨h1.os.trans hB.os, h1.tape.trans hB.tape, h1.output.trans hB.output, Nat.le_trans hB.size h1.size, fun k hk => (h3 k (Nat.lt_of_lt_of_le hk hB.size) (by omega) (by omega)).trans (hB.block k hk)⟩
 have HC := Aside0.mk (Kd.C_below hC hw)
 have HR := Aside0.mk hR
 have HX := Aside0.mk h
 have HSt := Aside0.mk ((h3 bS (blk_lt hS) hSB hSL).trans hS)
 have HL := Aside0.mk h4
 have HBc := Aside0.mk h5
 have HRB := Aside0.mk h6
 have H2 := Aside0.mk h2
 have H7 := Aside0.mk h7
 have H1 := Aside0.mk h1
 have H3 := Aside0.mk h3
 have Hc := Aside0.mk hc
 have hr0 := Kd.R_reads' hR
 have HCp := Aside0.mk hr0.2.2
 have Hcp := Aside0.mk hr0.2.1
 have Hp := Aside0.mk hp
 clear hC hB h1 h2 h3 h4 h5 h6 h7 hw hR h hc hr0 hp hS
 have s0 : W.cell? ⟨bS, 0, none⟩ = some (.int .i64 a0) := (blk_cell HSt.out 0).trans rfl
 have s1 : W.cell? ⟨bS, 1, none⟩ = some (.int .i64 a1) := (blk_cell HSt.out 1).trans rfl
 have s2 : W.cell? ⟨bS, 2, none⟩ = some (.slice A l0.length c) := (blk_cell HSt.out 2).trans rfl
 have hu28 := Try.underlying26
 have hu42 := Try.underlying45
 have hx := HX.out
 unfold bsStep at hx
 obtain ⟨⟨r1, r2, r3⟩, hpl, hx⟩ := Option.bind_eq_some_iff.1 hx
 have HPl := Aside0.mk hpl
 clear hpl
 cases r3
 ·rw [if_neg (by simp)] at hx
  obtain rfl := Option.some.inj hx
  clear HX
  go_enter Try.func40, Try.ntmps40
  go_wp2_with (first | (go_at_call 26; refine (impl_planBay.calls kk a0 a1 A c l0 A1 c1 p r1 r2 false _ HC.out Hc.out HCp.out Hcp.out HPl.out).mono ?_; rintro e W1 ⟨v1, rfl, hs1, hb1⟩; obtain ⟨A2, c2, rfl⟩ := Kd.S_slice hs1; have HB1 := Aside0.mk hb1; have HS1 := Aside0.mk hs1; have t0 := (hb1.cell (World.block_lt_of_cell? _ _ s0)).trans s0; have t1 := (hb1.cell (World.block_lt_of_cell? _ _ s1)).trans s1; have t2 := (hb1.cell (World.block_lt_of_cell? _ _ s2)).trans s2; have u0 := ((below_alloc (Below.refl _ W1) (.cells #[.int .i64 r1, .slice A2 r2.length c2] 45)).cell (World.block_lt_of_cell? _ _ t0)).trans t0; have u1 := ((below_alloc (Below.refl _ W1) (.cells #[.int .i64 r1, .slice A2 r2.length c2] 45)).cell (World.block_lt_of_cell? _ _ t1)).trans t1; have u2 := ((below_alloc (Below.refl _ W1) (.cells #[.int .i64 r1, .slice A2 r2.length c2] 45)).cell (World.block_lt_of_cell? _ _ t2)).trans t2; clear hs1 hb1 s0 s1 s2 t0 t1 t2))
  refine bodyPost_ret (results_none rfl _ _ _) rfl ?_
  have hb : Below W.heap.size W (W1.alloc (.cells #[.int .i64 r1, .slice A2 r2.length c2] 45)) := below_alloc HB1.out _
  exact ⟨by first | rfl | simp, ⟨b0 hb, fun k hk _ => hb.block k hk⟩, hOK.mono (hOK.keep (hOK.bound HI.out) (b0 hb) (fun k hk _ => hb.block k hk)) (fun k hk => .inl hk.1.1)⟩
 rw [if_pos rfl] at hx
 obtain ⟨sh, hsh, hx⟩ := Option.bind_eq_some_iff.1 hx
 have HSh := Aside0.mk hsh
 clear hsh HX
 by_cases c1_ : s.2 < 0
 ·rw [if_pos (.inl c1_)] at hx
  obtain rfl := Option.some.inj hx
  clear hx
  have d1 : decide (s.2 < 0) = true := decide_eq_true c1_
  go_enter Try.func40, Try.ntmps40
  go_wp2_with (first | (go_at_call 26; refine (impl_planBay.calls kk a0 a1 A c l0 A1 c1 p r1 r2 true _ HC.out Hc.out HCp.out Hcp.out HPl.out).mono ?_; rintro e W1 ⟨v1, rfl, hs1, hb1⟩; obtain ⟨A2, c2, rfl⟩ := Kd.S_slice hs1; have HB1 := Aside0.mk hb1; have HS1 := Aside0.mk hs1; have t0 := (hb1.cell (World.block_lt_of_cell? _ _ s0)).trans s0; have t1 := (hb1.cell (World.block_lt_of_cell? _ _ s1)).trans s1; have t2 := (hb1.cell (World.block_lt_of_cell? _ _ s2)).trans s2; have u0 := ((below_alloc (Below.refl _ W1) (.cells #[.int .i64 r1, .slice A2 r2.length c2] 45)).cell (World.block_lt_of_cell? _ _ t0)).trans t0; have u1 := ((below_alloc (Below.refl _ W1) (.cells #[.int .i64 r1, .slice A2 r2.length c2] 45)).cell (World.block_lt_of_cell? _ _ t1)).trans t1; have u2 := ((below_alloc (Below.refl _ W1) (.cells #[.int .i64 r1, .slice A2 r2.length c2] 45)).cell (World.block_lt_of_cell? _ _ t2)).trans t2; clear hs1 hb1 s0 s1 s2 t0 t1 t2) | (go_at_call 33; refine (impl_shiftedBoxes.calls a0 a1 A c l0 r1 A2 c2 r2 sh _ (Kd.C_below HC.out (below_alloc HB1.out _)) Hc.out (Kd.C_alloc (Kd.S_reads' HS1.out).2.2 _) (Kd.S_reads' HS1.out).2.1 HSh.out).mono ?_; rintro e W2 ⟨v2, rfl, hr2, hb2⟩; obtain ⟨A3, c3, rfl⟩ := Kd.R_slice hr2; have HB2 := Aside0.mk (show Below W.heap.size W W2 from (below_alloc HB1.out _).trans (hb2.mono (below_alloc HB1.out _).size)); have HL2 := Aside0.mk (blk_below HL.out HB2.out); have HBc2 := Aside0.mk (blk_below HBc.out HB2.out); have cL : W2.cell? ⟨bL, 0, none⟩ = some (.int .i64 s.2) := (blk_cell HL2.out 0).trans rfl; have fL := blk_frozen HL2.out 0; have cB : W2.cell? ⟨bB, 0, none⟩ = some vB := (blk_cell HBc2.out 0).trans rfl; have fB := blk_frozen HBc2.out 0; clear hr2 hb2 u0 u1 u2))
  (try simp only [Exit.inBlock, Exit.then])
  refine bodyPost_end (results_none rfl _ _ _) rfl ?_
  have hlW : bL < W2.heap.size := blk_lt HL2.out
  have hlW2 : bB < W2.heap.size := blk_lt HBc2.out
  have hb : Below 0 W ((W2.setCell ⟨bB, 0, none⟩ (.slice A1 p.length c1)).setCell ⟨bL, 0, none⟩ (.int .i64 (sh.length : Int))) := ((b0 HB2.out).setCell (Nat.zero_le _) _).setCell (Nat.zero_le _) _
  have hk : ∀ k, k < W.heap.size → ¬(k = bB ∨ k = bL) → ((W2.setCell ⟨bB, 0, none⟩ (.slice A1 p.length c1)).setCell ⟨bL, 0, none⟩ (.int .i64 (sh.length : Int))).heap[k]? = W.heap[k]? := fun k hk hn => by
    rw [Below.heap_setCell _ _ _ k (show k ≠ bL from fun h => hn (.inr h)), Below.heap_setCell _ _ _ k (show k ≠ bB from fun h => hn (.inl h)), HB2.out.block k hk]
  refine ⟨by first | rfl | simp, ⟨hb, hk⟩, H1.out.trans hb, fun k h => .inl (H2.out k h).1, fun k h h8 h9 => (hk k (Nat.lt_of_lt_of_le h H1.out.size) (fun h => h.elim h8 h9)).trans (H3.out k h h8 h9), blk_put (blk_far (p := ⟨bB, 0, none⟩) HL2.out hLB _) 0 _ rfl, .slice A1 p.length c1, blk_far (p := ⟨bL, 0, none⟩) (blk_put HBc2.out 0 _ rfl) hLB.symm _, int_keep (Kd.R_lower HR.out hb0) (fun k h => hk k (Kd.R_lt HR.out k h.symm) (fun h8 => ?_)), fun k h => .inr (.inl h)⟩
  have hkb : k < W0.heap.size := by rcases h8 with rfl | rfl <;> assumption
  rcases Kd.R_base2 HR.out with h0 | ⟨b, h0, hle⟩
  ·rw [h0] at h; cases h
  rw [h0] at h; have := Option.some.inj h; omega
 have d1 : decide (s.2 < 0) = false := decide_eq_false c1_
 by_cases c2_ : (sh.length : Int) < s.2
 rotate_left
 ·rw [if_neg (not_or.2 ⟨c1_, c2_⟩)] at hx
  obtain rfl := Option.some.inj hx
  clear hx
  have d2 : decide ((sh.length : Int) < s.2) = false := decide_eq_false c2_
  go_enter Try.func40, Try.ntmps40
  go_wp2_with (first | (go_at_call 26; refine (impl_planBay.calls kk a0 a1 A c l0 A1 c1 p r1 r2 true _ HC.out Hc.out HCp.out Hcp.out HPl.out).mono ?_; rintro e W1 ⟨v1, rfl, hs1, hb1⟩; obtain ⟨A2, c2, rfl⟩ := Kd.S_slice hs1; have HB1 := Aside0.mk hb1; have HS1 := Aside0.mk hs1; have t0 := (hb1.cell (World.block_lt_of_cell? _ _ s0)).trans s0; have t1 := (hb1.cell (World.block_lt_of_cell? _ _ s1)).trans s1; have t2 := (hb1.cell (World.block_lt_of_cell? _ _ s2)).trans s2; have u0 := ((below_alloc (Below.refl _ W1) (.cells #[.int .i64 r1, .slice A2 r2.length c2] 45)).cell (World.block_lt_of_cell? _ _ t0)).trans t0; have u1 := ((below_alloc (Below.refl _ W1) (.cells #[.int .i64 r1, .slice A2 r2.length c2] 45)).cell (World.block_lt_of_cell? _ _ t1)).trans t1; have u2 := ((below_alloc (Below.refl _ W1) (.cells #[.int .i64 r1, .slice A2 r2.length c2] 45)).cell (World.block_lt_of_cell? _ _ t2)).trans t2; clear hs1 hb1 s0 s1 s2 t0 t1 t2) | (go_at_call 33; refine (impl_shiftedBoxes.calls a0 a1 A c l0 r1 A2 c2 r2 sh _ (Kd.C_below HC.out (below_alloc HB1.out _)) Hc.out (Kd.C_alloc (Kd.S_reads' HS1.out).2.2 _) (Kd.S_reads' HS1.out).2.1 HSh.out).mono ?_; rintro e W2 ⟨v2, rfl, hr2, hb2⟩; obtain ⟨A3, c3, rfl⟩ := Kd.R_slice hr2; have HB2 := Aside0.mk (show Below W.heap.size W W2 from (below_alloc HB1.out _).trans (hb2.mono (below_alloc HB1.out _).size)); have HL2 := Aside0.mk (blk_below HL.out HB2.out); have HBc2 := Aside0.mk (blk_below HBc.out HB2.out); have cL : W2.cell? ⟨bL, 0, none⟩ = some (.int .i64 s.2) := (blk_cell HL2.out 0).trans rfl; have fL := blk_frozen HL2.out 0; have cB : W2.cell? ⟨bB, 0, none⟩ = some vB := (blk_cell HBc2.out 0).trans rfl; have fB := blk_frozen HBc2.out 0; clear hr2 hb2 u0 u1 u2))
  (try simp only [Exit.inBlock, Exit.then])
  refine bodyPost_end (results_none rfl _ _ _) rfl ?_
  have hb := HB2.out
  exact ⟨by first | rfl | simp, ⟨b0 hb, fun k hk _ => hb.block k hk⟩, hOK.mono (hOK.keep (hOK.bound HI.out) (b0 hb) (fun k hk _ => hb.block k hk)) (fun k hk => .inl hk.1.1)⟩
 rw [if_pos (.inr c2_)] at hx
 obtain rfl := Option.some.inj hx
 clear hx
 have d2 : decide ((sh.length : Int) < s.2) = true := decide_eq_true c2_
 go_enter Try.func40, Try.ntmps40
 go_wp2_with (first | (go_at_call 26; refine (impl_planBay.calls kk a0 a1 A c l0 A1 c1 p r1 r2 true _ HC.out Hc.out HCp.out Hcp.out HPl.out).mono ?_; rintro e W1 ⟨v1, rfl, hs1, hb1⟩; obtain ⟨A2, c2, rfl⟩ := Kd.S_slice hs1; have HB1 := Aside0.mk hb1; have HS1 := Aside0.mk hs1; have t0 := (hb1.cell (World.block_lt_of_cell? _ _ s0)).trans s0; have t1 := (hb1.cell (World.block_lt_of_cell? _ _ s1)).trans s1; have t2 := (hb1.cell (World.block_lt_of_cell? _ _ s2)).trans s2; have u0 := ((below_alloc (Below.refl _ W1) (.cells #[.int .i64 r1, .slice A2 r2.length c2] 45)).cell (World.block_lt_of_cell? _ _ t0)).trans t0; have u1 := ((below_alloc (Below.refl _ W1) (.cells #[.int .i64 r1, .slice A2 r2.length c2] 45)).cell (World.block_lt_of_cell? _ _ t1)).trans t1; have u2 := ((below_alloc (Below.refl _ W1) (.cells #[.int .i64 r1, .slice A2 r2.length c2] 45)).cell (World.block_lt_of_cell? _ _ t2)).trans t2; clear hs1 hb1 s0 s1 s2 t0 t1 t2) | (go_at_call 33; refine (impl_shiftedBoxes.calls a0 a1 A c l0 r1 A2 c2 r2 sh _ (Kd.C_below HC.out (below_alloc HB1.out _)) Hc.out (Kd.C_alloc (Kd.S_reads' HS1.out).2.2 _) (Kd.S_reads' HS1.out).2.1 HSh.out).mono ?_; rintro e W2 ⟨v2, rfl, hr2, hb2⟩; obtain ⟨A3, c3, rfl⟩ := Kd.R_slice hr2; have HB2 := Aside0.mk (show Below W.heap.size W W2 from (below_alloc HB1.out _).trans (hb2.mono (below_alloc HB1.out _).size)); have HL2 := Aside0.mk (blk_below HL.out HB2.out); have HBc2 := Aside0.mk (blk_below HBc.out HB2.out); have cL : W2.cell? ⟨bL, 0, none⟩ = some (.int .i64 s.2) := (blk_cell HL2.out 0).trans rfl; have fL := blk_frozen HL2.out 0; have cB : W2.cell? ⟨bB, 0, none⟩ = some vB := (blk_cell HBc2.out 0).trans rfl; have fB := blk_frozen HBc2.out 0; clear hr2 hb2 u0 u1 u2))
 (try simp only [Exit.inBlock, Exit.then])
 refine bodyPost_end (results_none rfl _ _ _) rfl ?_
 have hlW : bL < W2.heap.size := blk_lt HL2.out
 have hlW2 : bB < W2.heap.size := blk_lt HBc2.out
 have hb : Below 0 W ((W2.setCell ⟨bB, 0, none⟩ (.slice A1 p.length c1)).setCell ⟨bL, 0, none⟩ (.int .i64 (sh.length : Int))) := ((b0 HB2.out).setCell (Nat.zero_le _) _).setCell (Nat.zero_le _) _
 have hk : ∀ k, k < W.heap.size → ¬(k = bB ∨ k = bL) → ((W2.setCell ⟨bB, 0, none⟩ (.slice A1 p.length c1)).setCell ⟨bL, 0, none⟩ (.int .i64 (sh.length : Int))).heap[k]? = W.heap[k]? := fun k hk hn => by
   rw [Below.heap_setCell _ _ _ k (show k ≠ bL from fun h => hn (.inr h)), Below.heap_setCell _ _ _ k (show k ≠ bB from fun h => hn (.inl h)), HB2.out.block k hk]
 refine ⟨by first | rfl | simp, ⟨hb, hk⟩, H1.out.trans hb, fun k h => .inl (H2.out k h).1, fun k h h8 h9 => (hk k (Nat.lt_of_lt_of_le h H1.out.size) (fun h => h.elim h8 h9)).trans (H3.out k h h8 h9), blk_put (blk_far (p := ⟨bB, 0, none⟩) HL2.out hLB _) 0 _ rfl, .slice A1 p.length c1, blk_far (p := ⟨bL, 0, none⟩) (blk_put HBc2.out 0 _ rfl) hLB.symm _, int_keep (Kd.R_lower HR.out hb0) (fun k h => hk k (Kd.R_lt HR.out k h.symm) (fun h8 => ?_)), fun k h => .inr (.inl h)⟩
 have hkb : k < W0.heap.size := by rcases h8 with rfl | rfl <;> assumption
 rcases Kd.R_base2 HR.out with h0 | ⟨b, h0, hle⟩
 ·rw [h0] at h; cases h
 rw [h0] at h; have := Option.some.inj h; omega
set_option maxHeartbeats 8000000 in
set_option maxRecDepth 100000 in
/-- THE CALL -/
theorem impl_BestStowage.calls (kk : Nat) (a0_0 a0_1 : Int) (A0_2 : Option Addr) (c0_2 : Nat) (l0_2 : List Int) (r1 : List Int) (r2 : Int) (r3 : Bool) (w : World) (hr0_2 : Kd.C (Kd.int .i64) w A0_2 l0_2.length l0_2) (hc0_2 : l0_2.length ≤ c0_2) (h : impl_BestStowage.f kk a0_0 a0_1 l0_2 = some (r1, r2, r3)) :
    Calls Try.prog 15 #[.agg #[.int .i64 a0_0, .int .i64 a0_1, .slice A0_2 l0_2.length c0_2]] w fun e w' => ∃ v1_ : Value, e = .returned (.tuple #[v1_, .int .i64 r2, .bool r3]) ∧ Kd.R (Kd.int .i64) 3 w' w.heap.size (fun _ => True) v1_ r1 ∧ Below w.heap.size w w' := by
 have hu28 := Try.underlying26
 have HC := Aside0.mk hr0_2
 have Hc := Aside0.mk hc0_2
 clear hr0_2 hc0_2
 unfold impl_BestStowage.f at h
 obtain ⟨ok, hv, hx⟩ := Option.bind_eq_some_iff.1 h
 have HV := Aside0.mk hv
 clear hv h
 cases ok
 ·rw [if_neg (by simp)] at hx
  obtain ⟨rfl, rfl, rfl⟩ : r1 = [] ∧ r2 = 0 ∧ r3 = false := by simpa [eq_comm] using hx
  clear hx
  go_enter Try.func15, Try.ntmps15
  go_wp2_with (first | ((with_reducible refine gate_dst (N := 1) rfl ?_); (try (refine gate_guard (by rfl) ?_; dsimp only)); refine box_event ?hg (N := 1) ?hd (cs := #[.int .i64 a0_0, .int .i64 a0_1, .slice A0_2 l0_2.length c0_2]) (t := 26) ?hr ?_; (case hd => rfl); (case hg => rfl); (case hr => first | (go_simp; done) | (go_simp; rfl)); intro b1 hg1 w1 hx1 hb1; have G1 := Aside0.mk hg1; have X1 := Aside0.mk hx1; have Y1 := Aside0.mk hb1; have s10 : w1.cell? ⟨b1, 0, none⟩ = some (.int .i64 a0_0) := (blk_cell hx1 0).trans rfl; have s11 : w1.cell? ⟨b1, 1, none⟩ = some (.int .i64 a0_1) := (blk_cell hx1 1).trans rfl; have s12 : w1.cell? ⟨b1, 2, none⟩ = some (.slice A0_2 l0_2.length c0_2) := (blk_cell hx1 2).trans rfl; clear hg1 hx1 hb1) | (go_at_call 17; refine (impl_IsValidStowage.calls a0_0 a0_1 A0_2 c0_2 l0_2 false _ (Kd.C_below HC.out Y1.out) Hc.out HV.out).mono ?_; rintro e w2 ⟨rfl, hb2⟩; have Y2 := Aside0.mk hb2; clear hb2 s10 s11 s12))
  go_ret3
  exact ⟨_, rfl, Kd.R_nil _ _ _ _ _, Y1.out.trans (Y2.out.mono Y1.out.size)⟩
 rw [if_pos rfl] at hx
 by_cases hsz : l0_2.length ≤ 1000 ∧ 0 ≤ a0_0 ∧ a0_0 ≤ 1000
 rotate_left
 ·rw [if_neg hsz] at hx
  cases hx
 rw [if_pos hsz] at hx
 obtain ⟨s', hch, hx⟩ := Option.bind_eq_some_iff.1 hx
 obtain ⟨rfl, rfl, rfl⟩ : s'.1 = r1 ∧ s'.2 = r2 ∧ true = r3 := by simpa using hx
 obtain ⟨m, rfl⟩ : ∃ m : Nat, a0_0 = (m : Int) := ⟨a0_0.toNat, by omega⟩
 rw [Int.toNat_natCast] at hch
 have HX := Aside0.mk hch
 have HSZ := Aside0.mk (show l0_2.length ≤ 1000 ∧ m ≤ 1000 by omega)
 clear hx hch hsz
 go_enter Try.func15, Try.ntmps15
 go_upto_region 5 with (first | ((with_reducible refine gate_dst (N := 1) rfl ?_); (try (refine gate_guard (by rfl) ?_; dsimp only)); refine box_event ?hg (N := 1) ?hd (cs := #[.int .i64 (m : Int), .int .i64 a0_1, .slice A0_2 l0_2.length c0_2]) (t := 26) ?hr ?_; (case hd => rfl); (case hg => rfl); (case hr => first | (go_simp; done) | (go_simp; rfl)); intro b1 hg1 w1 hx1 hb1; have G1 := Aside0.mk hg1; have X1 := Aside0.mk hx1; have Y1 := Aside0.mk hb1; have s10 : w1.cell? ⟨b1, 0, none⟩ = some (.int .i64 (m : Int)) := (blk_cell hx1 0).trans rfl; have s11 : w1.cell? ⟨b1, 1, none⟩ = some (.int .i64 a0_1) := (blk_cell hx1 1).trans rfl; have s12 : w1.cell? ⟨b1, 2, none⟩ = some (.slice A0_2 l0_2.length c0_2) := (blk_cell hx1 2).trans rfl; clear hg1 hx1 hb1) | (go_at_call 17; refine (impl_IsValidStowage.calls (m : Int) a0_1 A0_2 c0_2 l0_2 true _ (Kd.C_below HC.out Y1.out) Hc.out HV.out).mono ?_; rintro e w2 ⟨rfl, hb2⟩; have Y2 := Aside0.mk hb2; clear hb2 s10 s11 s12) | ((with_reducible refine gate_dst (N := 5) rfl ?_); (try (refine gate_guard (by rfl) ?_; dsimp only)); refine box_event ?hg (N := 5) ?hd (cs := #[.slice none 0 0]) (t := 24) ?hr ?_; (case hd => rfl); (case hg => rfl); (case hr => first | (go_simp; done) | (go_simp; rfl)); intro b5 hg5 w5 hx5 hb5; have G5 := Aside0.mk hg5; have X5 := Aside0.mk hx5; have Y5 := Aside0.mk hb5; skip; clear hg5 hx5 hb5) | ((with_reducible refine gate_dst (N := 6) rfl ?_); (try (refine gate_guard (by rfl) ?_; dsimp only)); refine box_event ?hg (N := 6) ?hd (cs := #[.int .i64 0]) (t := 3) ?hr ?_; (case hd => rfl); (case hg => rfl); (case hr => first | (go_simp; done) | (go_simp; rfl)); intro b6 hg6 w6 hx6 hb6; have G6 := Aside0.mk hg6; have X6 := Aside0.mk hx6; have Y6 := Aside0.mk hb6; have c6 : w6.cell? ⟨b6, 0, none⟩ = some (.int .i64 0) := (blk_cell hx6 0).trans rfl; have f6 := blk_frozen hx6 0; clear hg6 hx6 hb6))
 have HZ := Aside0.mk (show w.heap.size ≤ b1 ∧ b1 < b5 ∧ b5 < b6 ∧ b6 < w6.heap.size from ⟨Nat.le_of_eq G1.out.symm, by have := blk_lt X1.out; have := Y2.out.size; have := G5.out; omega, by have := blk_lt X5.out; have := G6.out; omega, blk_lt X6.out⟩)
 have HB7 := Aside0.mk (show Below w.heap.size w (w6.setCell ⟨b6, 0, none⟩ (.int .i64 (-1))) from by
   have h2 : w.heap.size ≤ w1.heap.size := Y1.out.size
   have h5 : w1.heap.size ≤ w2.heap.size := Y2.out.size
   have h6 : w2.heap.size ≤ w5.heap.size := Y5.out.size
   have hz := HZ.out
   exact (((Y1.out.trans (Y2.out.mono h2)).trans (Y5.out.mono (by omega))).trans (Y6.out.mono (by omega))).setCell (by show w.heap.size ≤ b6; omega) _)
 have K1 := Aside0.mk (blk_far (p := ⟨b6, 0, none⟩) (blk_below (blk_below (blk_below X1.out Y2.out) Y5.out) Y6.out) (by have := HZ.out; show b1 ≠ b6; omega) (.int .i64 (-1)))
 have K5 := Aside0.mk (blk_far (p := ⟨b6, 0, none⟩) (blk_below X5.out Y6.out) (by have := HZ.out; show b5 ≠ b6; omega) (.int .i64 (-1)))
 have K6 := Aside0.mk (blk_put (cs' := #[.int .i64 (-1)]) X6.out 0 (.int .i64 (-1)) rfl)
 have HS7 := Aside0.mk (show (w6.setCell ⟨b6, 0, none⟩ (.int .i64 (-1))).heap.size = w6.heap.size by simp)
 clear c6 f6 X1 X5 X6 Y1 Y2 Y5 Y6 G1 G5 G6
 generalize w6.setCell ⟨b6, 0, none⟩ (.int .i64 (-1)) = w7 at HB7 K1 K5 K6 HS7 ⊢
 have s10 : w7.cell? ⟨b1, 0, none⟩ = some (.int .i64 (m : Int)) := (blk_cell K1.out 0).trans rfl
 have s12 : w7.cell? ⟨b1, 2, none⟩ = some (.slice A0_2 l0_2.length c0_2) := (blk_cell K1.out 2).trans rfl
 have HZ7 := Aside0.mk (show b1 < w7.heap.size ∧ b5 < w7.heap.size ∧ b6 < w7.heap.size from ⟨blk_lt K1.out, blk_lt K5.out, blk_lt K6.out⟩)
 have HI := Aside0.mk (show BsI w7 b5 b6 (fun _ => True) w7 (([] : List Int), (-1 : Int)) from ⟨Below.refl _ _, fun _ _ => trivial, fun _ _ _ _ => rfl, K6.out, .slice none 0 0, K5.out, Kd.R_nil _ _ _ _ _, fun _ _ => trivial⟩)
 have HCb := Aside0.mk (show ∀ base, w7.heap.size ≤ base → CbC (BsI w7 b5 b6) (bsStep kk (m : Int) a0_1 l0_2) (fun k => k = b5 ∨ k = b6) 40 #[.pointer (some ⟨b1, 0, none⟩), .pointer (some ⟨b6, 0, none⟩), .pointer (some ⟨b5, 0, none⟩)] base l0_2.length from fun base hb => by
   have hz := HZ.out
   exact impl_BestStowage.each kk (m : Int) a0_1 A0_2 c0_2 l0_2 w w7 HC.out Hc.out HB7.out b1 b6 b5 K1.out (by omega) (by omega) (by omega) (by omega) (by omega) HZ7.out.2.2 HZ7.out.2.1 base l0_2.length hb)
 have hmf : ∀ (fn : Fn) (first cap : Array Value) (w : World), (Instr.makeFunc fn first cap).run Try.prog w = .ok (.func fn first cap) w := fun _ _ _ _ => rfl
 go_upto_region 6 with (go_at_call 39; refine (impl_choices.calls (BsI_ok HZ7.out.2.1 HZ7.out.2.2) HSZ.out.1 HSZ.out.2 (fun args W => enters_ Try.func40 (by kernel_rfl) rfl args W) w7 HCb.out (fun k hk => by have := HZ7.out; omega) (([] : List Int), (-1 : Int)) s' (fun _ => True) HI.out HX.out).mono ?_; rintro e w8 ⟨rfl, hk8, hi8⟩; have HK8 := Aside0.mk hk8; have HI8 := Aside0.mk hi8; clear hk8 hi8)
 obtain ⟨_, _, _, hL8, v8, hB8, hR8, _⟩ := HI8.out
 obtain ⟨A8, c8, rfl⟩ := Kd.R_slice hR8
 have HR8 := Aside0.mk hR8
 have cB : w8.cell? ⟨b5, 0, none⟩ = some (.slice A8 s'.1.length c8) := (blk_cell hB8 0).trans rfl
 have cL : w8.cell? ⟨b6, 0, none⟩ = some (.int .i64 s'.2) := (blk_cell hL8 0).trans rfl
 have HB8 := Aside0.mk (show Below w.heap.size w w8 from ⟨HK8.out.1.os.trans HB7.out.os, HK8.out.1.tape.trans HB7.out.tape, HK8.out.1.output.trans HB7.out.output, Nat.le_trans HB7.out.size HK8.out.1.size, fun k hk => (HK8.out.2 k (Nat.lt_of_lt_of_le hk HB7.out.size) (by have := HZ.out; omega)).trans (HB7.out.block k hk)⟩)
 clear hL8 hB8 hR8 s10 s12
 go_quiet (fail)
 go_wp2
 go_ret3
 exact ⟨_, rfl, Kd.R_lower (Kd.R_drewN HR8.out _) HB7.out.size, pw_below_drewN HB8.out _⟩
end Go.Proofs.Ytipahijdcgoemaa.P
