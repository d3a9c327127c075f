-- Written by a program of this session over the translation (a variant of the printer, see wip/gen); Lean checks it.
import Derived.Test.YtemildnlfjijmaaPx0
import Derived.Test.YtemildnlfjijmaaPx10
import Derived.Test.YtemildnlfjijmaaPx14
import Derived.Test.YtemildnlfjijmaaPx16
import Derived.Test.YtemildnlfjijmaaU
import Derived.ArgAppend
import Derived.Maps.Range
namespace Go.Proofs.Ytemildnlfjijmaa.P
open Go.RowKit Go.Proofs.YtemildnlfjijmaaW.PrintWords Go.Proofs.YtemildnlfjijmaaW.PrintLast Go.Proofs.YtemildnlfjijmaaW.PrintMore
attribute [local go_sem] Go.Proofs.Ytemildnlfjijmaa.V.isSome_setCell max2_int min2_int max_two min_two max_three min_three max_four min_four
set_option linter.unusedVariables false
set_option linter.unusedSimpArgs false
/-! ### impl_AllowedStacks: function 6 -/
def impl_AllowedStacks.go (k : Nat) (tab : List (List Int)) (l1 : List S71) (a2 a3 : Int) : Nat → Nat → List Int → Option (List Int)
  | 0, _, acc => some acc
  | d + 1, i, acc => if (tab.getD i []).length < 4 then (impl_brokenRules.f k (tab.getD i [] ++ [a3]) l1 a2 (i : Int) ((tab.getD i []).length : Int)).bind fun t => impl_AllowedStacks.go k tab l1 a2 a3 d (i + 1) (if t.length = 0 then acc ++ [(i : Int)] else acc) else impl_AllowedStacks.go k tab l1 a2 a3 d (i + 1) acc
def impl_AllowedStacks.f (k : Nat) (l0_0 : List (List Int)) (l1 : List S71) (a2 a3 : Int) : Option (List Int × Bool) :=
  (impl_placeOf.f k l0_0 a3).bind fun p => (impl_areYard.f k l0_0 l1 a2).bind fun ok =>
    if ok = true ∧ Go.Proofs.Ytemildnlfjijmaa.U.inr a3 1 (l1.length : Int) = true ∧ p.1 < 0 then (impl_ownYard.f k l0_0).bind fun tab => if tab.length < 1048576 then (impl_AllowedStacks.go k tab l1 a2 a3 tab.length 0 []).bind fun r => some (r, true) else none
    else some ([], false)
theorem impl_AllowedStacks.within_eq (a b c : Int) : impl_within.f a b c = some (Go.Proofs.Ytemildnlfjijmaa.U.inr a b c) := by
 unfold impl_within.f Go.Proofs.Ytemildnlfjijmaa.U.inr
 by_cases h : b ≤ a <;> simp [h]
theorem impl_AllowedStacks.atRow {w : World} {A : Option Addr} {n : Nat} {xs : List (List Int)} (h : Kd.C (Kd.slice 3 (Kd.int .i64)) w A n xs) (i : Nat) (h1 : i < n) : ∃ ad A0 c0, A = some ad ∧ w.cell? (ad.add i) = some (.slice A0 (xs.getD i []).length c0) ∧ (xs.getD i []).length ≤ c0 ∧ Kd.C (Kd.int .i64) w A0 (xs.getD i []).length (xs.getD i []) := by
 obtain ⟨ad, c, e, _, hK, hc0⟩ := Kd.C_get h ([] : List Int) (i : Int) (by omega) (by omega)
 have hc : ∀ j u, c[j]? = some u → w.cell? (ad.add ((i : Int).toNat * 1 + j)) = some u := hc0
 obtain ⟨A0, c0, rfl, l0, g0⟩ := hK
 have hq := hc 0 _ rfl
 rw [Nat.mul_one, Nat.add_zero, Int.toNat_natCast] at hq
 exact ⟨ad, A0, c0, e, hq, l0, g0⟩
section
variable {P : Program} {ops : Array Oper} {rest : List Oper} {o : Oper} {a : Act} {Q : Exit → Act → World → Prop}
/-- append(v, p), handed on without being stored back: v's row is as it was, whether there was room or not. -/
theorem impl_AllowedStacks.peek {W : World} (base : Nat) (hgd : o.guard = none) (s x : Operand) (t e : TypeId)
    (ho : o.op = .call { callee := .builtin .append, args := #[s, x], argTypes := #[t, t] })
    (ht : P.underlying t = some (.slice e)) (hinfo : (P.info? e).map (fun i => (i.zero, i.size, i.bytes)) = some (some (.int .i64 0), 1, 8))
    (v : Value) (xs : List Int) (p : Int) (ok : Nat → Prop) (hs : a.eval s = v) (hx : a.eval x = .slice (some ⟨W.heap.size, 0, none⟩) 1 1)
    (HO : (Kd.int .i64).R e W base ok v xs) (hbase : base ≤ W.heap.size) (hl : (xs.length + 1) * 8 ≤ 140737488355328)
    (h : ∀ v1 w1, (Kd.int .i64).R e w1 base (fun k => ok k ∨ W.heap.size ≤ k) v1 (xs ++ [p]) → (Kd.int .i64).R e w1 base ok v xs → W.grownBy w1 v.ownBlock → wpList P ops Q rest (a.put o.dst v1) w1) :
    wpList P ops Q (o :: rest) a (W.alloc (.cells #[.int .i64 p] e)) := by
  obtain ⟨i0, hi, hzz⟩ := Option.map_eq_some_iff.1 hinfo
  simp only [Prod.mk.injEq] at hzz
  obtain ⟨hz0, hz1, hz2⟩ := hzz
  have HO2 := Kd.R_alloc HO (.cells #[.int .i64 p] e)
  have hnews : ∀ j u, [Value.int .i64 p][j]? = some u → (W.alloc (.cells #[.int .i64 p] e)).cell? ((⟨W.heap.size, 0, none⟩ : Addr).add j) = some u := by
    simpa using World.news_of_block (cs := #[Value.int .i64 p]) (t := e) (fr := (0, 0)) (heap_alloc_new W (.cells #[.int .i64 p] e))
  have hM : ∀ (w1 : World) (ok1 : Nat → Prop), (Kd.int .i64).M w1 base ok1 p [.int .i64 p] := fun _ _ => rfl
  have hone : ∀ u ∈ [Value.int .i64 p], u.oneCell' = true := by intro u hu; simp at hu; subst hu; rfl
  have key : ∃ v1 w1, (Builtin.append_ #[t, t] o.type #[v, .slice (some ⟨W.heap.size, 0, none⟩) 1 1]).run P (W.alloc (.cells #[.int .i64 p] e)) = .ok v1 w1 ∧ (Kd.int .i64).R e w1 base (fun k => ok k ∨ W.heap.size ≤ k) v1 (xs ++ [p]) ∧ (Kd.int .i64).R e w1 base ok v xs ∧ W.grownBy w1 v.ownBlock := by
    obtain ⟨hok, inner, hown, hr⟩ := HO2
    have hil : inner.length = xs.length := by have := hr.1; rw [show (Kd.int .i64).sz = 1 from rfl, Nat.mul_one] at this; exact this
    have hr1 : ∀ (w1 : World) (q : Value), Reps ((Kd.int .i64).M w1 base (fun k => (ok k ∨ W.heap.size ≤ k) ∧ some k ≠ q.ownBlock)) (Kd.int .i64).sz (xs ++ [p]) (inner ++ [.int .i64 p]) := fun w1 q =>
      Kd.reps_append (hr.imp_ (fun _ _ hq => hq)) ⟨rfl, fun j z hj => by
        match j, hj with
        | 0, hj => injection hj with hj; subst hj; rfl
        | j + 1, hj => cases hj⟩
    by_cases hv : v = .slice none 0 0
    · subst hv
      have hn : xs = [] := by
        have h2 := hown.1
        rcases hown.2 with ⟨_, h0⟩ | ⟨g, cap, cur, h3, _⟩
        · exact List.length_eq_zero_iff.1 h0
        · cases h3
      subst hn
      obtain ⟨v1, w1, hrun, h2, hg, _, hat⟩ := run_append_own_at (P := P) (W.alloc (.cells #[.int .i64 p] e)) base t o.type e i0 _ 1 8 ht hi hz0 hz1 hz2 rfl (by decide) _ 0 inner hown ⟨W.heap.size, 0, none⟩ 1 1 [.int .i64 p] rfl hnews hone (by simp only [maxLen]; omega) (by omega) (by simp; omega)
      refine ⟨v1, w1, hrun, ⟨fun k hk => ?_, inner ++ [.int .i64 p], by rw [List.length_append, List.length_singleton]; exact h2, hr1 _ _⟩, Kd.R_nil _ _ _ _ _, World.grownBy.trans (World.grownBy_alloc W _ _) hg⟩
      rcases hat with hat | hat
      · rw [hat] at hk; simp [Value.ownBlock] at hk
      · rw [hat] at hk; injection hk with hk; right; rw [← hk]; simp
    · rcases hown.2 with ⟨h3, _⟩ | ⟨g, cap, cur, rfl, hbg, hg, hnc, hcm, hcs, htake⟩
      · exact absurd h3 hv
      · by_cases hroom : xs.length + 1 ≤ cap
        · obtain ⟨v1, w1, hrun, h2, hgr, _, hat⟩ := run_append_own_at (P := P) (W.alloc (.cells #[.int .i64 p] e)) base t o.type e i0 _ 1 8 ht hi hz0 hz1 hz2 rfl (by decide) _ xs.length inner hown ⟨W.heap.size, 0, none⟩ 1 1 [.int .i64 p] rfl hnews hone (by simp only [maxLen]; omega) (by omega) (by simp; omega)
          have hcs1 : cur.size = cap := by have h_ := hcs; rw [show (Kd.int .i64).sz = 1 from rfl, Nat.mul_one] at h_; exact h_
          have hr2 := run_append_room (P := P) (W.alloc (.cells #[.int .i64 p] e)) t o.type e i0 ht hi g xs.length cap cur hg ⟨W.heap.size, 0, none⟩ 1 1 [.int .i64 p] (by rw [hz1]; rfl) hnews hone hroom (by rw [hz1, hcs1]; simp; omega)
          have he := hrun.symm.trans hr2
          injection he with he1 he2
          subst he1
          have hR1 : (Kd.int .i64).R e w1 base ok (.slice (some ⟨g, 0, none⟩) (xs.length + 1) cap) (xs ++ [p]) := ⟨fun k hk => hok k hk, inner ++ [.int .i64 p], by rw [List.length_append, List.length_singleton]; exact h2, Kd.reps_append (hr.imp_ (fun _ _ hq => hq)) ⟨rfl, fun j z hj => by
            match j, hj with
            | 0, hj => injection hj with hj; subst hj; rfl
            | j + 1, hj => cases hj⟩⟩
          have hT := Kd.R_take hR1 (m := xs.length) (by rw [List.length_append]; omega)
          rw [List.take_left] at hT
          exact ⟨_, w1, hrun, Kd.R_mono hR1 (fun k hk => Or.inl hk), hT, World.grownBy.trans (World.grownBy_alloc W _ _) hgr⟩
        · have hc0 : ∀ j u, inner[j]? = some u → (W.alloc (.cells #[.int .i64 p] e)).cell? ((⟨g, 0, none⟩ : Addr).add j) = some u := hown.cells (g := g) rfl
          obtain ⟨v1, w1, hrun, h2, hgr⟩ := run_append_arg_grows (P := P) (W.alloc (.cells #[.int .i64 p] e)) t o.type e i0 _ 1 8 ht hi hz0 hz1 hz2 rfl (by decide) ⟨g, 0, none⟩ xs.length cap inner (by rw [hil, Nat.mul_one]) hc0 ⟨W.heap.size, 0, none⟩ 1 1 [.int .i64 p] rfl hnews (by omega) (by simp only [maxLen]; omega) (by omega)
          refine ⟨v1, w1, hrun, ⟨fun k hk => ?_, inner ++ [.int .i64 p], own_weaken (by rw [List.length_append, List.length_singleton]; exact h2) (by simp; omega), hr1 _ _⟩, Kd.R_grown ⟨hok, inner, hown, hr⟩ hgr (fun k _ => by simp), World.grownBy.trans (World.grownBy_alloc W _ _) ⟨hgr.os, hgr.tape, hgr.output, hgr.size, fun i hi _ => hgr.block i hi (by simp)⟩⟩
          have := own_base h2 k hk
          right
          have h5 : (W.alloc (.cells #[.int .i64 p] e)).heap.size ≤ k := this
          rw [show (W.alloc (.cells #[.int .i64 p] e)).heap.size = W.heap.size + 1 by simp] at h5
          omega
  obtain ⟨v1, w1, hr1, h1, h2, hg⟩ := key
  refine wpList_plain hgd fun K hK => ?_
  unfold Oper.wp execOp
  simp only [ho, resolve, invoke, builtin, Sem.run_bind, Sem.run_pure, Result.andThen_ok, List.map_toArray, List.map_cons, List.map_nil, hs, hx, hr1]
  exact hK _ _ (h v1 w1 h1 h2 hg)
end
theorem impl_AllowedStacks.fld (v : Value) (w : World) : (Instr.field 26 (.agg #[v]) 0).run Try.prog w = .ok v w := by
 simp [Instr.field, part, run_underlying Try.underlying26, Try.isAgg24, asAgg]
set_option maxHeartbeats 8000000 in
set_option maxRecDepth 100000 in
theorem impl_AllowedStacks.calls (k : Nat) (A0_0 : Option Addr) (c0_0 : Nat) (l0_0 : List (List Int)) (A1 : Option Addr) (c1 : Nat) (l1 : List S71) (a2 : Int) (a3 : Int) (r1 : List Int) (r2 : Bool) (w : World) (hr0_0 : Kd.C (Kd.slice 3 (Kd.int .i64)) w A0_0 l0_0.length l0_0) (hc0_0 : l0_0.length ≤ c0_0) (hr1 : Kd.C k71 w A1 l1.length l1) (hc1 : l1.length ≤ c1) (h : impl_AllowedStacks.f k l0_0 l1 a2 a3 = some (r1, r2)) :
    Calls Try.prog 6 #[.agg #[.slice A0_0 l0_0.length c0_0], .slice A1 l1.length c1, .int .i64 a2, .int .i64 a3] w fun e w' => ∃ v0_ : Value, e = .returned (.tuple #[v0_, .bool r2]) ∧ Kd.R (Kd.int .i64) 3 w' w.heap.size (fun _ => True) v0_ r1 ∧ Below w.heap.size w w' := by
 have hu := Try.underlying26
 have hfl := fun (v : Value) (w : World) => impl_AllowedStacks.fld v w
 have hln1 : l1.length ≤ 9223372036854775807 := hr1.2.1
 have hln0 : l0_0.length ≤ 9223372036854775807 := hr0_0.2.1
 unfold impl_AllowedStacks.f at h
 replace h := Option.bind_eq_some_iff.mp h
 obtain ⟨⟨p, q⟩, hp, h⟩ := h
 replace h := Option.bind_eq_some_iff.mp h
 obtain ⟨ok, ha, h⟩ := h
 have HP := Aside0.mk hp
 have HA := Aside0.mk ha
 clear hp ha
 have HB0 := Aside0.mk (Below.refl w.heap.size w)
 have HR := Aside0.mk hr0_0
 have HR1 := Aside0.mk hr1
 have HC1 := Aside0.mk hc1
 have HC0 := Aside0.mk hc0_0
 clear hr0_0 hr1 hc1 hc0_0
 have HB1 := Aside0.mk (below_alloc HB0.out (.cells #[.slice A0_0 l0_0.length c0_0] 26))
 have HCell := Aside0.mk (show (w.alloc (.cells #[.slice A0_0 l0_0.length c0_0] 26)).cell? ⟨w.heap.size, 0, none⟩ = some (.slice A0_0 l0_0.length c0_0) from (blk_cell (blk_new w (.cells #[.slice A0_0 l0_0.length c0_0] 26 (0, 0))) 0).trans rfl)
 have hlt1 : w.heap.size < (w.alloc (.cells #[.slice A0_0 l0_0.length c0_0] 26)).heap.size := by simp
 cases ok
 ·rw [if_neg (by simp)] at h
  injection h with h
  injection h with h1 h2
  subst h1 h2
  go_enter Try.func6, Try.ntmps6
  go_wp2_with (first | (go_at_call 19; refine (impl_placeOf.calls k A0_0 c0_0 l0_0 a3 p q _ (Kd.C_below HR.out HB1.out) HC0.out HP.out).mono ?_; rintro e w2 ⟨rfl, hbl⟩; have HB2 := Aside0.mk (HB1.out.trans (hbl.mono (Nat.le_of_lt hlt1))); have HC2 := Aside0.mk ((hbl.cell (p := ⟨w.heap.size, 0, none⟩) hlt1).trans HCell.out); clear hbl; have hcz2 : w2.cell? ⟨w.heap.size, 0, none⟩ = some (.slice A0_0 l0_0.length c0_0) := HC2.out) | (go_at_call 20; refine (impl_areYard.calls k A0_0 c0_0 l0_0 A1 c1 l1 a2 _ _ (Kd.C_below HR.out HB2.out) HC0.out (Kd.C_below HR1.out HB2.out) HC1.out HA.out).mono ?_; rintro e w3 ⟨rfl, hbl⟩; have HB3 := Aside0.mk (HB2.out.trans (hbl.mono HB2.out.size)); have HC3 := Aside0.mk ((hbl.cell (p := ⟨w.heap.size, 0, none⟩) (World.block_lt_of_cell? _ _ HC2.out)).trans HC2.out); clear hbl; have hcz3 : w3.cell? ⟨w.heap.size, 0, none⟩ = some (.slice A0_0 l0_0.length c0_0) := HC3.out))
  go_ret2
  exact ⟨_, rfl, Kd.R_nil _ _ _ _ _, HB3.out⟩
 cases hin : Go.Proofs.Ytemildnlfjijmaa.U.inr a3 1 (l1.length : Int)
 ·rw [hin, if_neg (by simp)] at h
  injection h with h
  injection h with h1 h2
  subst h1 h2
  have HI := Aside0.mk hin
  clear hin
  go_enter Try.func6, Try.ntmps6
  go_wp2_with (first | (go_at_call 19; refine (impl_placeOf.calls k A0_0 c0_0 l0_0 a3 p q _ (Kd.C_below HR.out HB1.out) HC0.out HP.out).mono ?_; rintro e w2 ⟨rfl, hbl⟩; have HB2 := Aside0.mk (HB1.out.trans (hbl.mono (Nat.le_of_lt hlt1))); have HC2 := Aside0.mk ((hbl.cell (p := ⟨w.heap.size, 0, none⟩) hlt1).trans HCell.out); clear hbl; have hcz2 : w2.cell? ⟨w.heap.size, 0, none⟩ = some (.slice A0_0 l0_0.length c0_0) := HC2.out) | (go_at_call 20; refine (impl_areYard.calls k A0_0 c0_0 l0_0 A1 c1 l1 a2 _ _ (Kd.C_below HR.out HB2.out) HC0.out (Kd.C_below HR1.out HB2.out) HC1.out HA.out).mono ?_; rintro e w3 ⟨rfl, hbl⟩; have HB3 := Aside0.mk (HB2.out.trans (hbl.mono HB2.out.size)); have HC3 := Aside0.mk ((hbl.cell (p := ⟨w.heap.size, 0, none⟩) (World.block_lt_of_cell? _ _ HC2.out)).trans HC2.out); clear hbl; have hcz3 : w3.cell? ⟨w.heap.size, 0, none⟩ = some (.slice A0_0 l0_0.length c0_0) := HC3.out) | (go_at_call 21; (with_reducible refine (impl_within.calls a3 1 (l1.length : Int) _ _ (by rw [impl_AllowedStacks.within_eq, HI.out])).mono ?_); rintro e w' ⟨rfl, ⟨nd, rfl⟩⟩))
  go_ret2
  exact ⟨_, rfl, Kd.R_nil _ _ _ _ _, bel HB3⟩
 rw [hin] at h
 have HI := Aside0.mk hin
 clear hin
 by_cases hp0 : p < 0
 rotate_left
 ·have hpb : decide (0 ≤ p) = true := decide_eq_true (by omega)
  rw [if_neg (fun h_ => hp0 h_.2.2)] at h
  injection h with h
  injection h with h1 h2
  subst h1 h2
  clear hp0
  go_enter Try.func6, Try.ntmps6
  go_wp2_with (first | (go_at_call 19; refine (impl_placeOf.calls k A0_0 c0_0 l0_0 a3 p q _ (Kd.C_below HR.out HB1.out) HC0.out HP.out).mono ?_; rintro e w2 ⟨rfl, hbl⟩; have HB2 := Aside0.mk (HB1.out.trans (hbl.mono (Nat.le_of_lt hlt1))); have HC2 := Aside0.mk ((hbl.cell (p := ⟨w.heap.size, 0, none⟩) hlt1).trans HCell.out); clear hbl; have hcz2 : w2.cell? ⟨w.heap.size, 0, none⟩ = some (.slice A0_0 l0_0.length c0_0) := HC2.out) | (go_at_call 20; refine (impl_areYard.calls k A0_0 c0_0 l0_0 A1 c1 l1 a2 _ _ (Kd.C_below HR.out HB2.out) HC0.out (Kd.C_below HR1.out HB2.out) HC1.out HA.out).mono ?_; rintro e w3 ⟨rfl, hbl⟩; have HB3 := Aside0.mk (HB2.out.trans (hbl.mono HB2.out.size)); have HC3 := Aside0.mk ((hbl.cell (p := ⟨w.heap.size, 0, none⟩) (World.block_lt_of_cell? _ _ HC2.out)).trans HC2.out); clear hbl; have hcz3 : w3.cell? ⟨w.heap.size, 0, none⟩ = some (.slice A0_0 l0_0.length c0_0) := HC3.out) | (go_at_call 21; (with_reducible refine (impl_within.calls a3 1 (l1.length : Int) _ _ (by rw [impl_AllowedStacks.within_eq, HI.out])).mono ?_); rintro e w' ⟨rfl, ⟨nd, rfl⟩⟩))
  go_ret2
  exact ⟨_, rfl, Kd.R_nil _ _ _ _ _, bel HB3⟩
 have hpb : decide (0 ≤ p) = false := decide_eq_false (by omega)
 rw [if_pos ⟨rfl, rfl, hp0⟩] at h
 clear hp0
 replace h := Option.bind_eq_some_iff.mp h
 obtain ⟨tab, hown, h⟩ := h
 have HOwn := Aside0.mk hown
 clear hown
 by_cases htl : tab.length < 1048576
 rotate_left
 ·rw [if_neg htl] at h; cases h
 rw [if_pos htl] at h
 replace h := Option.bind_eq_some_iff.mp h
 obtain ⟨rr, hgo, h⟩ := h
 injection h with h
 injection h with h1 h2
 subst h1 h2
 have HGo := Aside0.mk hgo
 have HTl := Aside0.mk htl
 have htn : tab.length ≤ 9223372036854775807 := by omega
 clear hgo htl
 go_enter Try.func6, Try.ntmps6
 go_wp2_with (first | (go_at_call 19; refine (impl_placeOf.calls k A0_0 c0_0 l0_0 a3 p q _ (Kd.C_below HR.out HB1.out) HC0.out HP.out).mono ?_; rintro e w2 ⟨rfl, hbl⟩; have HB2 := Aside0.mk (HB1.out.trans (hbl.mono (Nat.le_of_lt hlt1))); have HC2 := Aside0.mk ((hbl.cell (p := ⟨w.heap.size, 0, none⟩) hlt1).trans HCell.out); clear hbl; have hcz2 : w2.cell? ⟨w.heap.size, 0, none⟩ = some (.slice A0_0 l0_0.length c0_0) := HC2.out) | (go_at_call 20; refine (impl_areYard.calls k A0_0 c0_0 l0_0 A1 c1 l1 a2 _ _ (Kd.C_below HR.out HB2.out) HC0.out (Kd.C_below HR1.out HB2.out) HC1.out HA.out).mono ?_; rintro e w3 ⟨rfl, hbl⟩; have HB3 := Aside0.mk (HB2.out.trans (hbl.mono HB2.out.size)); have HC3 := Aside0.mk ((hbl.cell (p := ⟨w.heap.size, 0, none⟩) (World.block_lt_of_cell? _ _ HC2.out)).trans HC2.out); clear hbl; have hcz3 : w3.cell? ⟨w.heap.size, 0, none⟩ = some (.slice A0_0 l0_0.length c0_0) := HC3.out) | (go_at_call 21; (with_reducible refine (impl_within.calls a3 1 (l1.length : Int) _ _ (by rw [impl_AllowedStacks.within_eq, HI.out])).mono ?_); rintro e w' ⟨rfl, ⟨nd, rfl⟩⟩) | ((with_reducible refine gate_dst (N := 37) rfl ?_); refine Kd.R_lit (Kd.int .i64) _ 3 ?hg (N := 37) ?hd (xs := ([] : List Int)) (inner := []) (ok := fun _ => True) (okp := fun _ => True) ?hr ?hp (fun _ hk => hk) trivial (Below.refl _ _) (Nat.le_refl _) (by simp) ?_; (case hd | hg => rfl); (case hr => go_simp); (case hp => exact (Reps.none _ _)); intro v12 w4 ho hb hg_ hnew_; clear hg_ hnew_; have HO := Aside0.mk (Kd.R_lower ho (below_size (bel HB3))); have HB4 := Aside0.mk (below_step (bel HB3) hb); have HC4 := Aside0.mk ((hb.cell (p := ⟨w.heap.size, 0, none⟩) (World.block_lt_of_cell? _ _ (show _ = some _ from HC3.out))).trans HC3.out); clear ho hb; have hcz4 : w4.cell? ⟨w.heap.size, 0, none⟩ = some (.slice A0_0 l0_0.length c0_0) := HC4.out) | (go_at_call 22; refine (impl_ownYard.calls k A0_0 c0_0 l0_0 tab _ (Kd.C_below HR.out HB4.out) HC0.out HOwn.out).mono ?_; rintro e w6 ⟨v39, rfl, hS, hb⟩; have HB6 := Aside0.mk (HB4.out.trans (hb.mono HB4.out.size)); have HO6 := Aside0.mk (Kd.R_below HO.out hb); have HS6 := Aside0.mk (Kd.S_mono (ok' := fun k_ => some k_ ≠ v12.ownBlock) (Kd.S_lower (Kd.S_bound hS) HB4.out.size) (fun k_ hk he => by have := Kd.R_lt HO.out k_ he.symm; omega)); clear hS hb; obtain ⟨A39, c39, e39⟩ := Kd.S_slice HS6.out; subst e39))
 clear hcz2 hcz3 hcz4
 go_loopw [12, 42] (fun v12 v42 wr => ∃ (i : Nat) (xs : List Int), v42 = .int .i64 (i : Int) ∧ Aside0 (i ≤ tab.length) ∧ Aside0 (xs.length ≤ i) ∧ Aside0 (impl_AllowedStacks.go k tab l1 a2 a3 (tab.length - i) i xs = some rr) ∧ Aside0 (Kd.R (Kd.int .i64) 3 wr w.heap.size (fun _ => True) v12 xs) ∧ Aside0 (Kd.S (Kd.slice 3 (Kd.int .i64)) 30 wr w.heap.size (fun k_ => some k_ ≠ (v12 : Value).ownBlock) (.slice A39 tab.length c39) tab) ∧ Aside0 (Below w.heap.size w wr))
   (fun v12 v42 wr => tab.length - (intOf v42).toNat)
 case atStart => exact ⟨0, [], rfl, ⟨Nat.zero_le _⟩, ⟨Nat.le_refl _⟩, HGo, HO6, HS6, HB6⟩
 clear HGo HO6 HS6 HB6 HO HB4 HB3 HB2 HB1 HC2 HC3 HC4
 obtain ⟨i, xs, rfl, HLe, HXl, HG, HO, HS, HB⟩ := hrel
 by_cases hlt : i < tab.length
 rotate_left
 ·have hltb : decide (i < tab.length) = false := decide_eq_false hlt
  have hxr : xs = rr := by
    have h1 := HG.out
    rw [show tab.length - i = 0 by omega] at h1
    injection h1
  subst hxr
  clear HG
  go_wp2
  go_ret2
  exact ⟨_, rfl, HO.out, HB.out⟩
 have hltb : decide (i < tab.length) = true := decide_eq_true hlt
 obtain ⟨ad, A0, c0, eA, hcell, hcr, hCr⟩ := impl_AllowedStacks.atRow (Kd.S_reads' HS.out).2.2 i hlt
 subst eA
 obtain ⟨oki, cc, hcl, hM, hcc, hoki, hback⟩ := Kd.S_borrow HS.out [] (i : Int) (by omega) (by omega)
 obtain ⟨v0, rfl, hR0⟩ := hM
 have hv0 := hcc 0 _ rfl
 rw [show ((i : Int).toNat * (Kd.slice 3 (Kd.int .i64)).sz + 0) = i by simp [show (Kd.slice 3 (Kd.int .i64)).sz = 1 from rfl]] at hv0
 replace hv0 := Option.some.inj (hv0.symm.trans hcell)
 subst hv0
 rw [Int.toNat_natCast] at hR0 hback
 have HG2 := Aside0.mk (show (if (tab.getD i []).length < 4 then (impl_brokenRules.f k (tab.getD i [] ++ [a3]) l1 a2 (i : Int) ((tab.getD i []).length : Int)).bind fun t => impl_AllowedStacks.go k tab l1 a2 a3 (tab.length - (i + 1)) (i + 1) (if t.length = 0 then xs ++ [(i : Int)] else xs) else impl_AllowedStacks.go k tab l1 a2 a3 (tab.length - (i + 1)) (i + 1) xs) = some rr by
   have h1 := HG.out
   rw [show tab.length - i = (tab.length - (i + 1)) + 1 by omega] at h1
   exact h1)
 clear HG
 have HRow := Aside0.mk (show tab.set i (tab.getD i []) = tab by
   apply List.ext_getElem?
   intro m
   rw [List.getElem?_set]
   split
   · rename_i hm; subst hm
     rw [List.getD_eq_getElem?_getD, List.getElem?_eq_getElem hlt]; rfl
   · rfl)
 generalize hrow : tab.getD i [] = row at *
 have HR0 := Aside0.mk hR0
 have HBack := Aside0.mk (fun (w1 : World) (rw_ : Option Nat) (hg : wr.grownBy w1 rw_) (h1 : ∀ k, rw_ = some k → oki k) (h2 : Kd.R (Kd.int .i64) 3 w1 w.heap.size oki (.slice A0 row.length c0) row) => hback (w1 := w1) (row := rw_) (x' := row) hg h1 ⟨_, rfl, h2⟩)
 have HOki := Aside0.mk hoki
 have HCr := Aside0.mk hcr
 clear hR0 hback hoki hcc hcl hCr hcr hrow
 by_cases h4 : row.length < 4
 rotate_left
 ·have h4b : decide (row.length < 4) = false := decide_eq_false h4
  have HG3 := Aside0.mk (show impl_AllowedStacks.go k tab l1 a2 a3 (tab.length - (i + 1)) (i + 1) xs = some rr by have h1 := HG2.out; rw [if_neg h4] at h1; exact h1)
  clear HG2
  go_wp2
  go_roundw
  case rel => exact ⟨i + 1, xs, by go_num, ⟨hlt⟩, ⟨by have := HXl.out; omega⟩, HG3, HO, HS, HB⟩
  case measure => simp [intOf]; omega
 have h4b : decide (row.length < 4) = true := decide_eq_true h4
 have hG := HG2.out
 rw [if_pos h4] at hG
 clear HG2
 replace hG := Option.bind_eq_some_iff.mp hG
 obtain ⟨t, ht, hG⟩ := hG
 obtain ⟨y, hy⟩ : ∃ y : List Int, y = row ++ [a3] := ⟨_, rfl⟩
 rw [← hy] at ht
 have NY := Aside0.mk hy
 have HT := Aside0.mk ht
 clear ht hy
 by_cases ht0 : t.length = 0
 rotate_left
 ·have ht0b : ((t.length : Int) == 0) = false := beq_eq_false_iff_ne.mpr (by omega)
  rw [if_neg ht0] at hG
  have HG3 := Aside0.mk hG
  clear hG
  go_wp2_with (first | ((with_reducible refine gate_builtin (b := .append) (xs := #[.tmp 51, .tmp 53]) rfl ?_); at_builtin; refine gate_guard (by rfl) ?_; dsimp only; refine impl_AllowedStacks.peek w.heap.size rfl (.tmp 51) (.tmp 53) 30 3 rfl Try.underlying30 info3 (.slice A0 row.length c0) row a3 oki rfl rfl HR0.out HB.out.size (by have := h4; omega) ?_; intro v1 w1 h1 h2 hg; rw [← NY.out] at h1; have HV := Aside0.mk h1; have HB1 := Aside0.mk (HB.out.grown hg HB.out.size (fun k hk => Kd.R_base HR0.out k hk)); have HO1 := Aside0.mk (Kd.R_mono (ok' := fun _ => True) (Kd.R_grown (Kd.R_tight rfl HO.out) hg (fun k hk he => (HOki.out k (HR0.out.1 k he.symm)).1 hk)) (fun _ _ => trivial)); have HS1 := Aside0.mk (show Kd.S (Kd.slice 3 (Kd.int .i64)) 30 w1 w.heap.size (fun k_ => some k_ ≠ (u12 : Value).ownBlock) (.slice (some ad) tab.length c39) tab by have h_ := HBack.out w1 _ hg (fun k hk => HR0.out.1 k hk) h2; rw [HRow.out] at h_; exact h_); clear h1 h2 hg; obtain ⟨Av, cv, ev⟩ := Kd.R_slice HV.out; subst ev) | (go_at_call 23; refine (impl_brokenRules.calls k Av cv y A1 c1 l1 a2 (i : Int) (row.length : Int) t _ (Kd.R_reads' HV.out).2.2 (Kd.R_reads' HV.out).2.1 (Kd.C_below HR1.out HB1.out) HC1.out HT.out).mono ?_; rintro e w2 ⟨vt, rfl, hRt, hb⟩; have HB2 := Aside0.mk (HB1.out.trans (hb.mono HB1.out.size)); have HO2 := Aside0.mk (Kd.R_below HO1.out hb); have HS2 := Aside0.mk (Kd.S_below HS1.out hb); obtain ⟨At, ct, et⟩ := Kd.R_slice hRt; subst et; clear hRt hb))
  go_roundw
  case rel => exact ⟨i + 1, xs, by go_num, ⟨hlt⟩, ⟨by have := HXl.out; omega⟩, HG3, HO2, HS2, HB2⟩
  case measure => simp [intOf]; omega
 have ht0b : ((t.length : Int) == 0) = true := beq_iff_eq.mpr (by omega)
 rw [if_pos ht0] at hG
 have HG3 := Aside0.mk hG
 clear hG
 go_wp2_with (first | ((with_reducible refine gate_builtin (b := .append) (xs := #[.tmp 51, .tmp 53]) rfl ?_); at_builtin; refine gate_guard (by rfl) ?_; dsimp only; refine impl_AllowedStacks.peek w.heap.size rfl (.tmp 51) (.tmp 53) 30 3 rfl Try.underlying30 info3 (.slice A0 row.length c0) row a3 oki rfl rfl HR0.out HB.out.size (by have := h4; omega) ?_; intro v1 w1 h1 h2 hg; rw [← NY.out] at h1; have HV := Aside0.mk h1; have HB1 := Aside0.mk (HB.out.grown hg HB.out.size (fun k hk => Kd.R_base HR0.out k hk)); have HO1 := Aside0.mk (Kd.R_mono (ok' := fun _ => True) (Kd.R_grown (Kd.R_tight rfl HO.out) hg (fun k hk he => (HOki.out k (HR0.out.1 k he.symm)).1 hk)) (fun _ _ => trivial)); have HS1 := Aside0.mk (show Kd.S (Kd.slice 3 (Kd.int .i64)) 30 w1 w.heap.size (fun k_ => some k_ ≠ (u12 : Value).ownBlock) (.slice (some ad) tab.length c39) tab by have h_ := HBack.out w1 _ hg (fun k hk => HR0.out.1 k hk) h2; rw [HRow.out] at h_; exact h_); clear h1 h2 hg; obtain ⟨Av, cv, ev⟩ := Kd.R_slice HV.out; subst ev) | (go_at_call 23; refine (impl_brokenRules.calls k Av cv y A1 c1 l1 a2 (i : Int) (row.length : Int) t _ (Kd.R_reads' HV.out).2.2 (Kd.R_reads' HV.out).2.1 (Kd.C_below HR1.out HB1.out) HC1.out HT.out).mono ?_; rintro e w2 ⟨vt, rfl, hRt, hb⟩; have HB2 := Aside0.mk (HB1.out.trans (hb.mono HB1.out.size)); have HO2 := Aside0.mk (Kd.R_below HO1.out hb); have HS2 := Aside0.mk (Kd.S_below HS1.out hb); obtain ⟨At, ct, et⟩ := Kd.R_slice hRt; subst et; clear hRt hb) | ((with_reducible refine gate_builtin (b := .append) (xs := #[.tmp 64, .tmp 66]) rfl ?_); at_builtin; refine Kd.R_append (Kd.int .i64) (w0 := w) w.heap.size rfl (.tmp 64) (.tmp 66) 30 3 (.int .i64 0) 8 rfl Try.underlying30 info3 rfl (by decide) (by omega) u12 xs (i : Int) [.int .i64 (i : Int)] (fun _ => True) (fun _ => False) rfl rfl ?aP (fun _ hk => hk.elim) ?aF ?aO ?aB ?aS ?aL ?_; (case aP => exact rfl); (case aB => exact (bel HB2)); (case aF => exact (fun _ _ => trivial)); (case aO => exact (rdl HO2)); (case aS => exact (below_size (bel HB2))); (case aL => have := HXl.out; have := HTl.out; omega); intro v67 w15 ho hb hg hat; have HO3 := Aside0.mk ho; have HB3 := Aside0.mk hb; have HS3 := Aside0.mk (Kd.S_mono (ok' := fun k_ => some k_ ≠ (v67 : Value).ownBlock) (Kd.S_after (ok := fun _ => True) (Kd.S_mono (sdl HS2) (fun k hk => ⟨trivial, hk⟩)) hg hat) (fun k hk => hk.2)); clear ho hb hg hat))
 go_roundw
 case rel => exact ⟨i + 1, xs ++ [(i : Int)], by go_num, ⟨hlt⟩, ⟨by have := HXl.out; rw [List.length_append, List.length_singleton]; omega⟩, HG3, HO3, HS3, HB3⟩
 case measure => simp [intOf]; omega
end Go.Proofs.Ytemildnlfjijmaa.P
