/- What the printed texts say again and again, once. -/
import Derived.WalkKit
import Derived.Test.YtemildnlfjijmaaWMore
namespace Go.Proofs.Ytemildnlfjijmaa.V
theorem isSome_setCell (w : World) (p : Addr) (v : Value) (q : Addr) : ((w.setCell p v).cell? q).isSome = (w.cell? q).isSome := by
  by_cases e : p = q
  · subst e
    cases h : w.cell? p with
    | some u => rw [World.cell?_setCell_same w p v h]; rfl
    | none =>
      cases h' : (w.setCell p v).cell? p with
      | none => rfl
      | some u =>
        exfalso
        simp only [World.setCell, World.cell?, Array.getElem?_modify, ↓reduceIte] at h h'
        cases hb : w.heap[p.block]? with
        | none => simp [hb] at h'
        | some o =>
          cases o <;> simp [hb] at h h'
          cases hs : p.spot with
          | some _ => simp [hs] at h'
          | none =>
            simp [hs] at h h'
            rw [Array.getElem?_eq_none (by simpa using h)] at h'
            cases h'
  · rw [World.cell?_setCell_other w p q v e]
end Go.Proofs.Ytemildnlfjijmaa.V
namespace Go.Proofs.Ytemildnlfjijmaa.P
open Go.RowKit Go.Proofs.YtemildnlfjijmaaW.PrintWords
theorem bel {P Q : Prop} (H : Aside0 P) (h : P → Q := by intro h_; (repeat (first | (with_reducible first | exact h_ | apply below_alloc | apply pw_below_drewN | apply below_drew1) | exact h_))) : Q := h H.out
theorem bkl {P Q : Prop} (H : Aside0 P) (h : P → Q := by intro h_; (with_reducible repeat (first | refine blk_drewN ?_ _ | refine blk_drew ?_ | refine blk_alloc ?_ _)); exact h_) : Q := h H.out
theorem rdl {P Q : Prop} (H : Aside0 P) (h : P → Q := by intro h_; (with_reducible repeat (first | apply Kd.R_alloc | apply Kd.R_drewN | apply Kd.R_drew)); exact h_) : Q := h H.out
theorem sdl {P Q : Prop} (H : Aside0 P) (h : P → Q := by intro h_; (with_reducible repeat (first | apply Kd.S_alloc | apply Kd.S_drewN | apply Kd.S_drew)); exact h_) : Q := h H.out
theorem oda {p : Prop} [Decidable p] (h : decide p = true := by first | (with_reducible assumption) | assumption) : p := of_decide_eq_true h
theorem cel {w w' : World} {a : Addr} {v : Value} (H : Aside0 (Below w.heap.size w w')) (h : w.cell? a = some v) : w'.cell? a = some v := (H.out.cell (World.block_lt_of_cell? w _ h)).trans h
theorem cdl {P Q : Prop} (H : P) (h : P → Q := by intro h_; (repeat (first | exact h_ | (with_reducible refine Kd.C_alloc ?_ _) | (with_reducible refine Kd.C_drewN ?_ _) | (with_reducible refine Kd.C_drew ?_)))) : Q := h H
theorem bel1 {P Q A : Prop} (H : Aside0 P) (G : Aside0 A) (h : P → A → Q := by intro h_ a_; (repeat (first | (with_reducible first | exact h_ | apply below_alloc | apply pw_below_drewN | apply below_drew1 | refine below_set ?_ a_) | exact h_))) : Q := h H.out G.out
theorem bel2 {P Q A B : Prop} (H : Aside0 P) (G : Aside0 A) (G2 : Aside0 B) (h : P → A → B → Q := by intro h_ a_ b_; (repeat (first | (with_reducible first | exact h_ | apply below_alloc | apply pw_below_drewN | apply below_drew1 | refine below_set ?_ a_ | refine below_set ?_ b_) | exact h_))) : Q := h H.out G.out G2.out
theorem bel3 {P Q A B C : Prop} (H : Aside0 P) (G : Aside0 A) (G2 : Aside0 B) (G3 : Aside0 C) (h : P → A → B → C → Q := by intro h_ a_ b_ c_; (repeat (first | (with_reducible first | exact h_ | apply below_alloc | apply pw_below_drewN | apply below_drew1 | refine below_set ?_ a_ | refine below_set ?_ b_ | refine below_set ?_ c_) | exact h_))) : Q := h H.out G.out G2.out G3.out
theorem kee {w W W' : World} {g : Nat} {row : Option Nat} (H : Aside0 (KeepBut w W g row)) (h : KeepBut w W g row → KeepBut w W' g row := by intro h_; (repeat (first | (with_reducible first | exact h_ | apply keep_drewN | apply keep_drew | apply keep_alloc | refine keep_far ?_ (Aside0.out (by assumption)) _) | exact h_))) : KeepBut w W' g row := h H.out
theorem belA {b : Nat} {w W W' : World} (H : Aside0 (Below b w W)) (h : Below b w W → Below b w W' := by intro h_; (repeat (first | (with_reducible first | exact h_ | apply below_alloc | apply pw_below_drewN | apply below_drew1 | refine below_set ?_ (Aside0.out (by assumption))) | exact h_))) : Below b w W' := h H.out
theorem gmp {P : Prop} (h : P := by (try simp only [List.map_toArray, List.map_cons, List.map_nil]); first | done | rfl | (simp only [List.length_drop, List.length_take]; rfl)) : P := h
/-- Where a result's block is; without one: nowhere below n. -/
theorem own_at (v : Value) (n : Nat) : ∃ b, (∀ k, some k = v.ownBlock → k = b) ∧ (∀ k, k < n → k = b → some k = v.ownBlock) := by
  cases h : v.ownBlock with
  | none => exact ⟨n, (fun k hk => by cases hk), fun k h1 h2 => by omega⟩
  | some b => exact ⟨b, (fun k hk => by injection hk), fun k _ h => by rw [h]⟩
/-- One value put into a slot, told plainly. -/
theorem putS : (∀ (a : Act) (v : Value), Act.put a none v = a) ∧ (∀ (a : Act) (n : Nat) (v : Value), Act.put a (some n) v = { a with tmps := a.tmps.setIfInBounds n v }) ∧ (∀ (l : List Value) (i : Nat) (v : Value), l.toArray.setIfInBounds i v = (l.set i v).toArray) ∧ (∀ (v u : Value) (l : List Value), (u :: l).set 0 v = v :: l) ∧ (∀ (v u : Value) (l : List Value) (n : Nat), (u :: l).set (n + 1) v = u :: l.set n v) ∧ (∀ n : Int, IntKind.i64.wrap n = wrap64 n) ∧ (∀ n : Int, IntKind.i32.wrap n = wrap32 n) :=
  ⟨fun _ _ => rfl, fun _ _ _ => rfl, fun _ _ _ => List.setIfInBounds_toArray .., fun _ _ _ => rfl, fun _ _ _ _ => rfl, fun n => by unfold wrap64; exact IntKind.wrap_i64 n, fun n => by unfold wrap32; exact IntKind.wrap_i32 n⟩
theorem dd2 {W : World} {a b : Nat} : (W.drewN a).drewN b = W.drewN (a + b) := World.drewN_drewN _ _ _
theorem dd3 {W : World} {a b c : Nat} : (W.drewN (a + b)).drewN c = W.drewN (a + (b + c)) := Eq.trans (World.drewN_drewN _ _ _) (congrArg (World.drewN _) (Nat.add_assoc _ _ _))
end Go.Proofs.Ytemildnlfjijmaa.P
