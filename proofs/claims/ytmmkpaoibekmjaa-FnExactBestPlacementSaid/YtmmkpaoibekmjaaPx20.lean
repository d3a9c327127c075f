-- Written by a program of this session over the translation (a variant of the printer, see wip/gen); Lean checks it.
import Derived.Test.YtmmkpaoibekmjaaPx0
import Derived.Test.YtmmkpaoibekmjaaPx9
import Derived.Test.YtmmkpaoibekmjaaPx11
import Derived.Test.YtmmkpaoibekmjaaPx15
import Derived.Test.YtmmkpaoibekmjaaPx19
import Derived.Test.YtmmkpaoibekmjaaU
namespace Go.Proofs.Ytmmkpaoibekmjaa.P
open Go.RowKit Go.Proofs.YtmmkpaoibekmjaaW.PrintWords Go.Proofs.YtmmkpaoibekmjaaW.PrintLast Go.Proofs.YtmmkpaoibekmjaaW.PrintMore
attribute [local go_sem] Go.Proofs.Ytmmkpaoibekmjaa.V.isSome_setCell max2_int min2_int max_two min_two max_three min_three max_four min_four   -- for this text's walks alone
set_option linter.unusedVariables false
set_option linter.unusedSimpArgs false

/-! ### impl_BestPlacement: function 8 -/
/-- What the callback does with a placement: the best so far and its number. -/
def bpStep (k : Nat) (l0 : List (List Int)) (l1 : List Int) (s : List Int × Int) (p : List Int) : Option (List Int × Int) := (impl_ApplyPlacement.f k l0 l1 p).bind fun b => if b.2 = true then (impl_allBadlyPlaced.f k b.1).bind fun sh => if s.2 < 0 ∨ (sh.length : Int) < s.2 then some (p, (sh.length : Int)) else some s else some s
theorem bpStep_mono (l0 : List (List Int)) (l1 : List Int) (k : Nat) (s : List Int × Int) (p : List Int) : LeO (bpStep k l0 l1 s p) (bpStep (k + 1) l0 l1 s p) := LeO.bind (impl_ApplyPlacement.mono _ _ _ k) (fun _ => LeO.ite (LeO.bind (impl_allBadlyPlaced.mono _ k) (fun _ => LeO.refl _)) (LeO.refl _))
def impl_BestPlacement.f (k : Nat) (l0 : List (List Int)) (l1 : List Int) : Option (List Int × Int × Bool) := (impl_areArrivals.f k l0 l1).bind fun t => if t = true then (if l1.length ≤ 1000 ∧ l0.length ≤ 1000 then (chGo l0.length (bpStep k l0 l1) l1.length [] (([] : List Int), (-1 : Int))).bind fun s => if s.2 < 0 then some ([], 0, false) else some (s.1, s.2, true) else none) else some ([], 0, false)
theorem impl_BestPlacement.mono : ∀ a0 a1 k, LeO (impl_BestPlacement.f k a0 a1) (impl_BestPlacement.f (k + 1) a0 a1) := by
  intro a0 a1 k
  unfold impl_BestPlacement.f
  refine LeO.bind (impl_areArrivals.mono _ _ k) (fun t => LeO.ite (LeO.ite (LeO.bind (chGo_mono _ (fun s p => bpStep_mono a0 a1 k s p) _ _ _) (fun _ => LeO.refl _)) (LeO.refl _)) (LeO.refl _))
set_option maxHeartbeats 8000000 in
set_option maxRecDepth 100000 in
/-- THE CALLBACK -/
theorem impl_BestPlacement.each (kk : Nat) (A : Option Addr) (c : Nat) (l0 : List (List Int)) (Al : Option Addr) (cl : Nat) (l1 : List Int) (w W0 : World) (hC : Kd.C (Kd.slice 3 (Kd.int .i64)) w A l0.length l0) (hc : l0.length ≤ c) (hCl : Kd.C (Kd.int .i64) w Al l1.length l1) (hcl : l1.length ≤ cl) (hB : Below w.heap.size w W0) (bS bA bL bB : Nat) (hS : W0.heap[bS]? = some (.cells #[.slice A l0.length c] 29 (0, 0))) (hA : W0.heap[bA]? = some (.cells #[.slice Al l1.length cl] 25 (0, 0)))
    (hwL : w.heap.size ≤ bL) (hwB : w.heap.size ≤ bB) (hSL : bS ≠ bL) (hSB : bS ≠ bB) (hAL : bA ≠ bL) (hAB : bA ≠ bB) (hLB : bL ≠ bB) (hlL : bL < W0.heap.size) (hlB : bB < W0.heap.size) (base size : Nat) (hb0 : W0.heap.size ≤ base) :
    CbC (BsI W0 bB bL) (bpStep kk l0 l1) (fun k => k = bB ∨ k = bL) 20 #[.pointer (some ⟨bS, 0, none⟩), .pointer (some ⟨bA, 0, none⟩), .pointer (some ⟨bL, 0, none⟩), .pointer (some ⟨bB, 0, none⟩)] base size := by
  intro W v p s s' ok hR hp hI h
  obtain ⟨A1, c1, rfl⟩ := Kd.R_slice hR
  obtain ⟨h1, h2, h3, h4, vB, h5, h6, h7⟩ := hI
  have hOK := BsI_ok hlB hlL
  have HI := Aside0.mk (show BsI W0 bB bL (fun k => ok k ∧ some k ≠ (Value.slice A1 p.length c1).ownBlock) W s from ⟨h1, h2, h3, h4, vB, h5, h6, h7⟩)
  have hw : Below w.heap.size w W := ⟨h1.os.trans hB.os, h1.tape.trans hB.tape, h1.output.trans hB.output, Nat.le_trans hB.size h1.size, fun k hk => (h3 k (Nat.lt_of_lt_of_le hk hB.size) (by omega) (by omega)).trans (hB.block k hk)⟩
  have HC := Aside0.mk (Kd.C_below hC hw)
  have HCl := Aside0.mk (Kd.C_below hCl hw)
  have Hcl := Aside0.mk hcl
  have HSa := Aside0.mk ((h3 bA (blk_lt hA) hAB hAL).trans hA)
  have HR := Aside0.mk hR
  have HX := Aside0.mk h
  have HSt := Aside0.mk ((h3 bS (blk_lt hS) hSB hSL).trans hS)
  have HL := Aside0.mk h4
  have HBc := Aside0.mk h5
  have HRB := Aside0.mk h6
  have H2 := Aside0.mk h2
  have H7 := Aside0.mk h7
  have H1 := Aside0.mk h1
  have H3 := Aside0.mk h3
  have Hc := Aside0.mk hc
  have hr0 := Kd.R_reads' hR
  have HCp := Aside0.mk hr0.2.2
  have Hcp := Aside0.mk hr0.2.1
  have Hp := Aside0.mk hp
  clear hC hCl hcl hA hB h1 h2 h3 h4 h5 h6 h7 hw hR h hc hr0 hp hS
  have s0 : W.cell? ⟨bS, 0, none⟩ = some (.slice A l0.length c) := (blk_cell HSt.out 0).trans rfl
  have s1 : W.cell? ⟨bA, 0, none⟩ = some (.slice Al l1.length cl) := (blk_cell HSa.out 0).trans rfl
  have hu29 := Try.underlying29
  have hx := HX.out
  unfold bpStep at hx
  obtain ⟨⟨r2, r3⟩, hpl, hx⟩ := Option.bind_eq_some_iff.1 hx
  have HPl := Aside0.mk hpl
  clear hpl
  cases r3
  · rw [if_neg (by simp)] at hx
    obtain rfl := Option.some.inj hx
    clear HX
    go_enter Try.func20, Try.ntmps20
    go_wp2_with (first | (go_at_call 21; refine (impl_ApplyPlacement.calls kk A c l0 Al cl l1 A1 c1 p r2 false _ HC.out Hc.out HCl.out Hcl.out HCp.out Hcp.out HPl.out).mono ?_; rintro e W1 ⟨v1, rfl, hs1, hb1⟩; obtain ⟨A2, c2, rfl⟩ := Kd.S_slice hs1; have HB1 := Aside0.mk hb1; have HS1 := Aside0.mk hs1; have t0 := (hb1.cell (World.block_lt_of_cell? _ _ s0)).trans s0; have t1 := (hb1.cell (World.block_lt_of_cell? _ _ s1)).trans s1; have u0 := ((below_alloc (Below.refl _ W1) (.cells #[.slice A2 r2.length c2] 29)).cell (World.block_lt_of_cell? _ _ t0)).trans t0; have u1 := ((below_alloc (Below.refl _ W1) (.cells #[.slice A2 r2.length c2] 29)).cell (World.block_lt_of_cell? _ _ t1)).trans t1; clear hs1 hb1 s0 s1 t0 t1))
    refine bodyPost_ret (results_none rfl _ _ _) rfl ?_
    have hb : Below W.heap.size W (W1.alloc (.cells #[.slice A2 r2.length c2] 29)) := below_alloc HB1.out _
    exact ⟨by first | rfl | simp, ⟨b0 hb, fun k hk _ => hb.block k hk⟩, hOK.mono (hOK.keep (hOK.bound HI.out) (b0 hb) (fun k hk _ => hb.block k hk)) (fun k hk => .inl hk.1.1)⟩
  · rw [if_pos rfl] at hx
    obtain ⟨sh, hsh, hx⟩ := Option.bind_eq_some_iff.1 hx
    have HSh := Aside0.mk hsh
    clear hsh HX
    by_cases c1_ : s.2 < 0
    · rw [if_pos (.inl c1_)] at hx
      obtain rfl := Option.some.inj hx
      clear hx
      have d1 : decide (s.2 < 0) = true := decide_eq_true c1_
      go_enter Try.func20, Try.ntmps20
      go_wp2_with (first | (go_at_call 21; refine (impl_ApplyPlacement.calls kk A c l0 Al cl l1 A1 c1 p r2 true _ HC.out Hc.out HCl.out Hcl.out HCp.out Hcp.out HPl.out).mono ?_; rintro e W1 ⟨v1, rfl, hs1, hb1⟩; obtain ⟨A2, c2, rfl⟩ := Kd.S_slice hs1; have HB1 := Aside0.mk hb1; have HS1 := Aside0.mk hs1; have t0 := (hb1.cell (World.block_lt_of_cell? _ _ s0)).trans s0; have t1 := (hb1.cell (World.block_lt_of_cell? _ _ s1)).trans s1; have u0 := ((below_alloc (Below.refl _ W1) (.cells #[.slice A2 r2.length c2] 29)).cell (World.block_lt_of_cell? _ _ t0)).trans t0; have u1 := ((below_alloc (Below.refl _ W1) (.cells #[.slice A2 r2.length c2] 29)).cell (World.block_lt_of_cell? _ _ t1)).trans t1; clear hs1 hb1 s0 s1 t0 t1) | (go_at_call 22; refine (impl_allBadlyPlaced.calls kk A2 c2 r2 sh _ (Kd.C_alloc (Kd.S_reads' HS1.out).2.2 _) (Kd.S_reads' HS1.out).2.1 HSh.out).mono ?_; rintro e W2 ⟨v2, rfl, hr2, hb2⟩; obtain ⟨A3, c3, rfl⟩ := Kd.R_slice hr2; have HB2 := Aside0.mk (show Below W.heap.size W W2 from (below_alloc HB1.out _).trans (hb2.mono (below_alloc HB1.out _).size)); have HL2 := Aside0.mk (blk_below HL.out HB2.out); have HBc2 := Aside0.mk (blk_below HBc.out HB2.out); have cL : W2.cell? ⟨bL, 0, none⟩ = some (.int .i64 s.2) := (blk_cell HL2.out 0).trans rfl; have fL := blk_frozen HL2.out 0; have cB : W2.cell? ⟨bB, 0, none⟩ = some vB := (blk_cell HBc2.out 0).trans rfl; have fB := blk_frozen HBc2.out 0; clear hr2 hb2 u0 u1))
      (try simp only [Exit.inBlock, Exit.then])
      refine bodyPost_end (results_none rfl _ _ _) rfl ?_
      have hlW : bL < W2.heap.size := blk_lt HL2.out
      have hlW2 : bB < W2.heap.size := blk_lt HBc2.out
      have hb : Below 0 W ((W2.setCell ⟨bB, 0, none⟩ (.slice A1 p.length c1)).setCell ⟨bL, 0, none⟩ (.int .i64 (sh.length : Int))) := ((b0 HB2.out).setCell (Nat.zero_le _) _).setCell (Nat.zero_le _) _
      have hk : ∀ k, k < W.heap.size → ¬(k = bB ∨ k = bL) → ((W2.setCell ⟨bB, 0, none⟩ (.slice A1 p.length c1)).setCell ⟨bL, 0, none⟩ (.int .i64 (sh.length : Int))).heap[k]? = W.heap[k]? := fun k hk hn => by
        rw [Below.heap_setCell _ _ _ k (show k ≠ bL from fun h => hn (.inr h)), Below.heap_setCell _ _ _ k (show k ≠ bB from fun h => hn (.inl h)), HB2.out.block k hk]
      refine ⟨by first | rfl | simp, ⟨hb, hk⟩, H1.out.trans hb, fun k h => .inl (H2.out k h).1, fun k h h8 h9 => (hk k (Nat.lt_of_lt_of_le h H1.out.size) (fun h => h.elim h8 h9)).trans (H3.out k h h8 h9), blk_put (blk_far (p := ⟨bB, 0, none⟩) HL2.out hLB _) 0 _ rfl, .slice A1 p.length c1, blk_far (p := ⟨bL, 0, none⟩) (blk_put HBc2.out 0 _ rfl) hLB.symm _, int_keep (Kd.R_lower HR.out hb0) (fun k h => hk k (Kd.R_lt HR.out k h.symm) (fun h8 => ?_)), fun k h => .inr (.inl h)⟩
      have hkb : k < W0.heap.size := by rcases h8 with rfl | rfl <;> assumption
      rcases Kd.R_base2 HR.out with h0 | ⟨b, h0, hle⟩
      · rw [h0] at h; cases h
      · rw [h0] at h; have := Option.some.inj h; omega
    · have d1 : decide (s.2 < 0) = false := decide_eq_false c1_
      by_cases c2_ : (sh.length : Int) < s.2
      · rw [if_pos (.inr c2_)] at hx
        obtain rfl := Option.some.inj hx
        clear hx
        have d2 : decide ((sh.length : Int) < s.2) = true := decide_eq_true c2_
        go_enter Try.func20, Try.ntmps20
        go_wp2_with (first | (go_at_call 21; refine (impl_ApplyPlacement.calls kk A c l0 Al cl l1 A1 c1 p r2 true _ HC.out Hc.out HCl.out Hcl.out HCp.out Hcp.out HPl.out).mono ?_; rintro e W1 ⟨v1, rfl, hs1, hb1⟩; obtain ⟨A2, c2, rfl⟩ := Kd.S_slice hs1; have HB1 := Aside0.mk hb1; have HS1 := Aside0.mk hs1; have t0 := (hb1.cell (World.block_lt_of_cell? _ _ s0)).trans s0; have t1 := (hb1.cell (World.block_lt_of_cell? _ _ s1)).trans s1; have u0 := ((below_alloc (Below.refl _ W1) (.cells #[.slice A2 r2.length c2] 29)).cell (World.block_lt_of_cell? _ _ t0)).trans t0; have u1 := ((below_alloc (Below.refl _ W1) (.cells #[.slice A2 r2.length c2] 29)).cell (World.block_lt_of_cell? _ _ t1)).trans t1; clear hs1 hb1 s0 s1 t0 t1) | (go_at_call 22; refine (impl_allBadlyPlaced.calls kk A2 c2 r2 sh _ (Kd.C_alloc (Kd.S_reads' HS1.out).2.2 _) (Kd.S_reads' HS1.out).2.1 HSh.out).mono ?_; rintro e W2 ⟨v2, rfl, hr2, hb2⟩; obtain ⟨A3, c3, rfl⟩ := Kd.R_slice hr2; have HB2 := Aside0.mk (show Below W.heap.size W W2 from (below_alloc HB1.out _).trans (hb2.mono (below_alloc HB1.out _).size)); have HL2 := Aside0.mk (blk_below HL.out HB2.out); have HBc2 := Aside0.mk (blk_below HBc.out HB2.out); have cL : W2.cell? ⟨bL, 0, none⟩ = some (.int .i64 s.2) := (blk_cell HL2.out 0).trans rfl; have fL := blk_frozen HL2.out 0; have cB : W2.cell? ⟨bB, 0, none⟩ = some vB := (blk_cell HBc2.out 0).trans rfl; have fB := blk_frozen HBc2.out 0; clear hr2 hb2 u0 u1))
        (try simp only [Exit.inBlock, Exit.then])
        refine bodyPost_end (results_none rfl _ _ _) rfl ?_
        have hlW : bL < W2.heap.size := blk_lt HL2.out
        have hlW2 : bB < W2.heap.size := blk_lt HBc2.out
        have hb : Below 0 W ((W2.setCell ⟨bB, 0, none⟩ (.slice A1 p.length c1)).setCell ⟨bL, 0, none⟩ (.int .i64 (sh.length : Int))) := ((b0 HB2.out).setCell (Nat.zero_le _) _).setCell (Nat.zero_le _) _
        have hk : ∀ k, k < W.heap.size → ¬(k = bB ∨ k = bL) → ((W2.setCell ⟨bB, 0, none⟩ (.slice A1 p.length c1)).setCell ⟨bL, 0, none⟩ (.int .i64 (sh.length : Int))).heap[k]? = W.heap[k]? := fun k hk hn => by
          rw [Below.heap_setCell _ _ _ k (show k ≠ bL from fun h => hn (.inr h)), Below.heap_setCell _ _ _ k (show k ≠ bB from fun h => hn (.inl h)), HB2.out.block k hk]
        refine ⟨by first | rfl | simp, ⟨hb, hk⟩, H1.out.trans hb, fun k h => .inl (H2.out k h).1, fun k h h8 h9 => (hk k (Nat.lt_of_lt_of_le h H1.out.size) (fun h => h.elim h8 h9)).trans (H3.out k h h8 h9), blk_put (blk_far (p := ⟨bB, 0, none⟩) HL2.out hLB _) 0 _ rfl, .slice A1 p.length c1, blk_far (p := ⟨bL, 0, none⟩) (blk_put HBc2.out 0 _ rfl) hLB.symm _, int_keep (Kd.R_lower HR.out hb0) (fun k h => hk k (Kd.R_lt HR.out k h.symm) (fun h8 => ?_)), fun k h => .inr (.inl h)⟩
        have hkb : k < W0.heap.size := by rcases h8 with rfl | rfl <;> assumption
        rcases Kd.R_base2 HR.out with h0 | ⟨b, h0, hle⟩
        · rw [h0] at h; cases h
        · rw [h0] at h; have := Option.some.inj h; omega
      · rw [if_neg (not_or.2 ⟨c1_, c2_⟩)] at hx
        obtain rfl := Option.some.inj hx
        clear hx
        have d2 : decide ((sh.length : Int) < s.2) = false := decide_eq_false c2_
        go_enter Try.func20, Try.ntmps20
        go_wp2_with (first | (go_at_call 21; refine (impl_ApplyPlacement.calls kk A c l0 Al cl l1 A1 c1 p r2 true _ HC.out Hc.out HCl.out Hcl.out HCp.out Hcp.out HPl.out).mono ?_; rintro e W1 ⟨v1, rfl, hs1, hb1⟩; obtain ⟨A2, c2, rfl⟩ := Kd.S_slice hs1; have HB1 := Aside0.mk hb1; have HS1 := Aside0.mk hs1; have t0 := (hb1.cell (World.block_lt_of_cell? _ _ s0)).trans s0; have t1 := (hb1.cell (World.block_lt_of_cell? _ _ s1)).trans s1; have u0 := ((below_alloc (Below.refl _ W1) (.cells #[.slice A2 r2.length c2] 29)).cell (World.block_lt_of_cell? _ _ t0)).trans t0; have u1 := ((below_alloc (Below.refl _ W1) (.cells #[.slice A2 r2.length c2] 29)).cell (World.block_lt_of_cell? _ _ t1)).trans t1; clear hs1 hb1 s0 s1 t0 t1) | (go_at_call 22; refine (impl_allBadlyPlaced.calls kk A2 c2 r2 sh _ (Kd.C_alloc (Kd.S_reads' HS1.out).2.2 _) (Kd.S_reads' HS1.out).2.1 HSh.out).mono ?_; rintro e W2 ⟨v2, rfl, hr2, hb2⟩; obtain ⟨A3, c3, rfl⟩ := Kd.R_slice hr2; have HB2 := Aside0.mk (show Below W.heap.size W W2 from (below_alloc HB1.out _).trans (hb2.mono (below_alloc HB1.out _).size)); have HL2 := Aside0.mk (blk_below HL.out HB2.out); have HBc2 := Aside0.mk (blk_below HBc.out HB2.out); have cL : W2.cell? ⟨bL, 0, none⟩ = some (.int .i64 s.2) := (blk_cell HL2.out 0).trans rfl; have fL := blk_frozen HL2.out 0; have cB : W2.cell? ⟨bB, 0, none⟩ = some vB := (blk_cell HBc2.out 0).trans rfl; have fB := blk_frozen HBc2.out 0; clear hr2 hb2 u0 u1))
        (try simp only [Exit.inBlock, Exit.then])
        refine bodyPost_end (results_none rfl _ _ _) rfl ?_
        have hb := HB2.out
        exact ⟨by first | rfl | simp, ⟨b0 hb, fun k hk _ => hb.block k hk⟩, hOK.mono (hOK.keep (hOK.bound HI.out) (b0 hb) (fun k hk _ => hb.block k hk)) (fun k hk => .inl hk.1.1)⟩
set_option maxHeartbeats 8000000 in
set_option maxRecDepth 100000 in
/-- THE CALL -/
theorem impl_BestPlacement.calls (kk : Nat) (A0_0 : Option Addr) (c0_0 : Nat) (l0_0 : List (List Int)) (A1 : Option Addr) (c1 : Nat) (l1 : List Int) (r1 : List Int) (r2 : Int) (r3 : Bool) (w : World) (hr0_0 : Kd.C (Kd.slice 3 (Kd.int .i64)) w A0_0 l0_0.length l0_0) (hc0_0 : l0_0.length ≤ c0_0) (hr1 : Kd.C (Kd.int .i64) w A1 l1.length l1) (hc1 : l1.length ≤ c1) (h : impl_BestPlacement.f kk l0_0 l1 = some (r1, r2, r3)) :
    Calls Try.prog 8 #[.agg #[.slice A0_0 l0_0.length c0_0], .slice A1 l1.length c1] w fun e w' => ∃ v1_ : Value, e = .returned (.tuple #[v1_, .int .i64 r2, .bool r3]) ∧ Kd.R (Kd.int .i64) 3 w' w.heap.size (fun _ => True) v1_ r1 ∧ Below w.heap.size w w' := by
  have hu29 := Try.underlying29
  have HC := Aside0.mk hr0_0
  have Hc := Aside0.mk hc0_0
  have HC1 := Aside0.mk hr1
  have Hc1 := Aside0.mk hc1
  clear hr0_0 hc0_0 hr1 hc1
  unfold impl_BestPlacement.f at h
  obtain ⟨ok, hv, hx⟩ := Option.bind_eq_some_iff.1 h
  have HV := Aside0.mk hv
  clear hv h
  cases ok
  · rw [if_neg (by simp)] at hx
    obtain ⟨rfl, rfl, rfl⟩ : r1 = [] ∧ r2 = 0 ∧ r3 = false := by simpa [eq_comm] using hx
    clear hx
    go_enter Try.func8, Try.ntmps8
    go_wp2_with (first | ((with_reducible refine gate_dst (N := 2) rfl ?_); (try (refine gate_guard (by rfl) ?_; dsimp only)); refine box_event ?hg (N := 2) ?hd (cs := #[.slice A0_0 l0_0.length c0_0]) (t := 29) ?hr ?_; (case hd => rfl); (case hg => rfl); (case hr => first | (go_simp; done) | (go_simp; rfl)); intro b2 hg2 w2 hx2 hb2; have G2 := Aside0.mk hg2; have X2 := Aside0.mk hx2; have Y2 := Aside0.mk hb2; skip; clear hg2 hx2 hb2) | ((with_reducible refine gate_dst (N := 3) rfl ?_); (try (refine gate_guard (by rfl) ?_; dsimp only)); refine box_event ?hg (N := 3) ?hd (cs := #[.slice A1 l1.length c1]) (t := 25) ?hr ?_; (case hd => rfl); (case hg => rfl); (case hr => first | (go_simp; done) | (go_simp; rfl)); intro b3 hg3 w3 hx3 hb3; have G3 := Aside0.mk hg3; have X3 := Aside0.mk hx3; have Y3 := Aside0.mk hb3; have s3 : w3.cell? ⟨b3, 0, none⟩ = some (.slice A1 l1.length c1) := (blk_cell hx3 0).trans rfl; have s2 : w3.cell? ⟨b2, 0, none⟩ = some (.slice A0_0 l0_0.length c0_0) := (blk_cell (blk_below X2.out hb3) 0).trans rfl; clear hg3 hx3 hb3) | (go_at_call 18; refine (impl_areArrivals.calls kk A0_0 c0_0 l0_0 A1 c1 l1 false _ (Kd.C_below HC.out (Y2.out.trans (Y3.out.mono Y2.out.size))) Hc.out (Kd.C_below HC1.out (Y2.out.trans (Y3.out.mono Y2.out.size))) Hc1.out HV.out).mono ?_; rintro e w4 ⟨rfl, hb4⟩; have Y4 := Aside0.mk hb4; clear hb4 s2 s3))
    go_ret3
    have hb3 : Below w.heap.size w w3 := Y2.out.trans (Y3.out.mono Y2.out.size)
    exact ⟨_, rfl, Kd.R_nil _ _ _ _ _, hb3.trans (Y4.out.mono hb3.size)⟩
  · rw [if_pos rfl] at hx
    by_cases hsz : l1.length ≤ 1000 ∧ l0_0.length ≤ 1000
    · rw [if_pos hsz] at hx
      obtain ⟨s', hch, hx⟩ := Option.bind_eq_some_iff.1 hx
      have HX := Aside0.mk hch
      have HF := Aside0.mk hx
      have HSZ := Aside0.mk hsz
      clear hx hch hsz
      go_enter Try.func8, Try.ntmps8
      go_upto_region 5 with (first | ((with_reducible refine gate_dst (N := 2) rfl ?_); (try (refine gate_guard (by rfl) ?_; dsimp only)); refine box_event ?hg (N := 2) ?hd (cs := #[.slice A0_0 l0_0.length c0_0]) (t := 29) ?hr ?_; (case hd => rfl); (case hg => rfl); (case hr => first | (go_simp; done) | (go_simp; rfl)); intro b2 hg2 w2 hx2 hb2; have G2 := Aside0.mk hg2; have X2 := Aside0.mk hx2; have Y2 := Aside0.mk hb2; skip; clear hg2 hx2 hb2) | ((with_reducible refine gate_dst (N := 3) rfl ?_); (try (refine gate_guard (by rfl) ?_; dsimp only)); refine box_event ?hg (N := 3) ?hd (cs := #[.slice A1 l1.length c1]) (t := 25) ?hr ?_; (case hd => rfl); (case hg => rfl); (case hr => first | (go_simp; done) | (go_simp; rfl)); intro b3 hg3 w3 hx3 hb3; have G3 := Aside0.mk hg3; have X3 := Aside0.mk hx3; have Y3 := Aside0.mk hb3; have s3 : w3.cell? ⟨b3, 0, none⟩ = some (.slice A1 l1.length c1) := (blk_cell hx3 0).trans rfl; have s2 : w3.cell? ⟨b2, 0, none⟩ = some (.slice A0_0 l0_0.length c0_0) := (blk_cell (blk_below X2.out hb3) 0).trans rfl; clear hg3 hx3 hb3) | (go_at_call 18; refine (impl_areArrivals.calls kk A0_0 c0_0 l0_0 A1 c1 l1 true _ (Kd.C_below HC.out (Y2.out.trans (Y3.out.mono Y2.out.size))) Hc.out (Kd.C_below HC1.out (Y2.out.trans (Y3.out.mono Y2.out.size))) Hc1.out HV.out).mono ?_; rintro e w4 ⟨rfl, hb4⟩; have Y4 := Aside0.mk hb4; clear hb4 s2 s3) | ((with_reducible refine gate_dst (N := 7) rfl ?_); (try (refine gate_guard (by rfl) ?_; dsimp only)); refine box_event ?hg (N := 7) ?hd (cs := #[.slice none 0 0]) (t := 25) ?hr ?_; (case hd => rfl); (case hg => rfl); (case hr => first | (go_simp; done) | (go_simp; rfl)); intro b7 hg7 w7 hx7 hb7; have G7 := Aside0.mk hg7; have X7 := Aside0.mk hx7; have Y7 := Aside0.mk hb7; skip; clear hg7 hx7 hb7) | ((with_reducible refine gate_dst (N := 8) rfl ?_); (try (refine gate_guard (by rfl) ?_; dsimp only)); refine box_event ?hg (N := 8) ?hd (cs := #[.int .i64 0]) (t := 3) ?hr ?_; (case hd => rfl); (case hg => rfl); (case hr => first | (go_simp; done) | (go_simp; rfl)); intro b8 hg8 w8 hx8 hb8; have G8 := Aside0.mk hg8; have X8 := Aside0.mk hx8; have Y8 := Aside0.mk hb8; have c8 : w8.cell? ⟨b8, 0, none⟩ = some (.int .i64 0) := (blk_cell hx8 0).trans rfl; have f8 := blk_frozen hx8 0; clear hg8 hx8 hb8))
      have HZ := Aside0.mk (show w.heap.size ≤ b2 ∧ b2 < b3 ∧ b3 < b7 ∧ b7 < b8 ∧ b8 < w8.heap.size from ⟨Nat.le_of_eq G2.out.symm, by have := blk_lt X2.out; have := G3.out; omega, by have := blk_lt X3.out; have := Y4.out.size; have := G7.out; omega, by have := blk_lt X7.out; have := G8.out; omega, blk_lt X8.out⟩)
      have HB9 := Aside0.mk (show Below w.heap.size w (w8.setCell ⟨b8, 0, none⟩ (.int .i64 (-1))) from by
        have h2 : w.heap.size ≤ w2.heap.size := Y2.out.size
        have h3 : w2.heap.size ≤ w3.heap.size := Y3.out.size
        have h4 : w3.heap.size ≤ w4.heap.size := Y4.out.size
        have h7 : w4.heap.size ≤ w7.heap.size := Y7.out.size
        have hz := HZ.out
        exact ((((Y2.out.trans (Y3.out.mono h2)).trans (Y4.out.mono (by omega))).trans (Y7.out.mono (by omega))).trans (Y8.out.mono (by omega))).setCell (by show w.heap.size ≤ b8; omega) _)
      have K2 := Aside0.mk (blk_far (p := ⟨b8, 0, none⟩) (blk_below (blk_below (blk_below (blk_below X2.out Y3.out) Y4.out) Y7.out) Y8.out) (by have := HZ.out; show b2 ≠ b8; omega) (.int .i64 (-1)))
      have K3 := Aside0.mk (blk_far (p := ⟨b8, 0, none⟩) (blk_below (blk_below (blk_below X3.out Y4.out) Y7.out) Y8.out) (by have := HZ.out; show b3 ≠ b8; omega) (.int .i64 (-1)))
      have K7 := Aside0.mk (blk_far (p := ⟨b8, 0, none⟩) (blk_below X7.out Y8.out) (by have := HZ.out; show b7 ≠ b8; omega) (.int .i64 (-1)))
      have K8 := Aside0.mk (blk_put (cs' := #[.int .i64 (-1)]) X8.out 0 (.int .i64 (-1)) rfl)
      clear c8 f8 X2 X3 X7 X8 Y2 Y3 Y4 Y7 Y8 G2 G3 G7 G8
      generalize w8.setCell ⟨b8, 0, none⟩ (.int .i64 (-1)) = w9 at HB9 K2 K3 K7 K8 ⊢
      have s12 : w9.cell? ⟨b2, 0, none⟩ = some (.slice A0_0 l0_0.length c0_0) := (blk_cell K2.out 0).trans rfl
      have s13 : w9.cell? ⟨b3, 0, none⟩ = some (.slice A1 l1.length c1) := (blk_cell K3.out 0).trans rfl
      have HZ9 := Aside0.mk (show b2 < w9.heap.size ∧ b3 < w9.heap.size ∧ b7 < w9.heap.size ∧ b8 < w9.heap.size from ⟨blk_lt K2.out, blk_lt K3.out, blk_lt K7.out, blk_lt K8.out⟩)
      have HI := Aside0.mk (show BsI w9 b7 b8 (fun _ => True) w9 (([] : List Int), (-1 : Int)) from ⟨Below.refl _ _, fun _ _ => trivial, fun _ _ _ _ => rfl, K8.out, .slice none 0 0, K7.out, Kd.R_nil _ _ _ _ _, fun _ _ => trivial⟩)
      have HCb := Aside0.mk (show ∀ base, w9.heap.size ≤ base → CbC (BsI w9 b7 b8) (bpStep kk l0_0 l1) (fun k => k = b7 ∨ k = b8) 20 #[.pointer (some ⟨b2, 0, none⟩), .pointer (some ⟨b3, 0, none⟩), .pointer (some ⟨b8, 0, none⟩), .pointer (some ⟨b7, 0, none⟩)] base l1.length from fun base hb => by
        have hz := HZ.out
        exact impl_BestPlacement.each kk A0_0 c0_0 l0_0 A1 c1 l1 w w9 HC.out Hc.out HC1.out Hc1.out HB9.out b2 b3 b8 b7 K2.out K3.out (by omega) (by omega) (by omega) (by omega) (by omega) (by omega) (by omega) HZ9.out.2.2.2 HZ9.out.2.2.1 base l1.length hb)
      go_upto_region 6 with (go_at_call 19; refine (impl_choices.calls (BsI_ok HZ9.out.2.2.1 HZ9.out.2.2.2) HSZ.out.1 HSZ.out.2 (fun args W => enters_ Try.func20 (by kernel_rfl) rfl args W) w9 HCb.out (fun k hk => by have := HZ9.out; omega) (([] : List Int), (-1 : Int)) s' (fun _ => True) HI.out HX.out).mono ?_; rintro e w10 ⟨rfl, hk8, hi8⟩; have HK8 := Aside0.mk hk8; have HI8 := Aside0.mk hi8; clear hk8 hi8)
      obtain ⟨_, _, _, hL8, v8, hB8, hR8, _⟩ := HI8.out
      obtain ⟨A8, c8, rfl⟩ := Kd.R_slice hR8
      have HR8 := Aside0.mk hR8
      have cB : w10.cell? ⟨b7, 0, none⟩ = some (.slice A8 s'.1.length c8) := (blk_cell hB8 0).trans rfl
      have cL : w10.cell? ⟨b8, 0, none⟩ = some (.int .i64 s'.2) := (blk_cell hL8 0).trans rfl
      have HB8 := Aside0.mk (show Below w.heap.size w w10 from ⟨HK8.out.1.os.trans HB9.out.os, HK8.out.1.tape.trans HB9.out.tape, HK8.out.1.output.trans HB9.out.output, Nat.le_trans HB9.out.size HK8.out.1.size, fun k hk => (HK8.out.2 k (Nat.lt_of_lt_of_le hk HB9.out.size) (by have := HZ.out; omega)).trans (HB9.out.block k hk)⟩)
      clear hL8 hB8 hR8 s12 s13
      have hx := HF.out
      by_cases hneg : s'.2 < 0
      · rw [if_pos hneg] at hx
        obtain ⟨rfl, rfl, rfl⟩ : r1 = [] ∧ r2 = 0 ∧ r3 = false := by simpa [eq_comm] using hx
        clear hx
        have hnb : decide (s'.2 < 0) = true := decide_eq_true hneg
        go_wp2
        go_ret3
        exact ⟨_, rfl, Kd.R_nil _ _ _ _ _, HB8.out⟩
      · rw [if_neg hneg] at hx
        obtain ⟨rfl, rfl, rfl⟩ : s'.1 = r1 ∧ s'.2 = r2 ∧ true = r3 := by simpa using hx
        clear hx
        have hnb : decide (s'.2 < 0) = false := decide_eq_false hneg
        go_wp2
        go_quiet (fail)
        go_wp2
        go_ret3
        exact ⟨_, rfl, Kd.R_lower (Kd.R_drewN HR8.out _) HB9.out.size, pw_below_drewN HB8.out _⟩
    · rw [if_neg hsz] at hx
      cases hx


end Go.Proofs.Ytmmkpaoibekmjaa.P
