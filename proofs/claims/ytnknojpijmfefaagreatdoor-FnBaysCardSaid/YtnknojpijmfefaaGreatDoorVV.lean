/- What the printed texts say again and again, once. -/
import Derived.Test.YtnknojpijmfefaaGreatDoorWMore
namespace Go.Proofs.YtnknojpijmfefaaGreatDoor.P
open Go.RowKit Go.Proofs.YtnknojpijmfefaaGreatDoorW.PrintWords
theorem bel {P Q : Prop} (H : Aside0 P) (h : P → Q := by intro h_; (repeat (first | (with_reducible first | exact h_ | apply below_alloc | apply pw_below_drewN | apply below_drew1) | exact h_))) : Q := h H.out
theorem bkl {P Q : Prop} (H : Aside0 P) (h : P → Q := by intro h_; (with_reducible repeat (first | refine blk_drewN ?_ _ | refine blk_drew ?_ | refine blk_alloc ?_ _)); exact h_) : Q := h H.out
theorem rdl {P Q : Prop} (H : Aside0 P) (h : P → Q := by intro h_; (with_reducible repeat (first | apply Kd.R_alloc | apply Kd.R_drewN | apply Kd.R_drew)); exact h_) : Q := h H.out
theorem sdl {P Q : Prop} (H : Aside0 P) (h : P → Q := by intro h_; (with_reducible repeat (first | apply Kd.S_alloc | apply Kd.S_drewN | apply Kd.S_drew)); exact h_) : Q := h H.out
theorem oda {p : Prop} [Decidable p] (h : decide p = true := by first | (with_reducible assumption) | assumption) : p := of_decide_eq_true h
theorem cel {w w' : World} {a : Addr} {v : Value} (H : Aside0 (Below w.heap.size w w')) (h : w.cell? a = some v) : w'.cell? a = some v := (H.out.cell (World.block_lt_of_cell? w _ h)).trans h
theorem cdl {P Q : Prop} (H : P) (h : P → Q := by intro h_; (repeat (first | exact h_ | (with_reducible refine Kd.C_alloc ?_ _) | (with_reducible refine Kd.C_drewN ?_ _) | (with_reducible refine Kd.C_drew ?_)))) : Q := h H
theorem bel1 {P Q A : Prop} (H : Aside0 P) (G : Aside0 A) (h : P → A → Q := by intro h_ a_; (repeat (first | (with_reducible first | exact h_ | apply below_alloc | apply pw_below_drewN | apply below_drew1 | refine below_set ?_ a_) | exact h_))) : Q := h H.out G.out
theorem bel2 {P Q A B : Prop} (H : Aside0 P) (G : Aside0 A) (G2 : Aside0 B) (h : P → A → B → Q := by intro h_ a_ b_; (repeat (first | (with_reducible first | exact h_ | apply below_alloc | apply pw_below_drewN | apply below_drew1 | refine below_set ?_ a_ | refine below_set ?_ b_) | exact h_))) : Q := h H.out G.out G2.out
theorem bel3 {P Q A B C : Prop} (H : Aside0 P) (G : Aside0 A) (G2 : Aside0 B) (G3 : Aside0 C) (h : P → A → B → C → Q := by intro h_ a_ b_ c_; (repeat (first | (with_reducible first | exact h_ | apply below_alloc | apply pw_below_drewN | apply below_drew1 | refine below_set ?_ a_ | refine below_set ?_ b_ | refine below_set ?_ c_) | exact h_))) : Q := h H.out G.out G2.out G3.out
theorem gmp {P : Prop} (h : P := by (try simp only [List.map_toArray, List.map_cons, List.map_nil]); first | done | rfl | (simp only [List.length_drop, List.length_take]; rfl)) : P := h
theorem birth {W W' : World} {last : Nat} (hz : last ≤ W.heap.size) (hb : Below W.heap.size W W') : ∃ lo hi, lo = W.heap.size ∧ hi = W'.heap.size ∧ last ≤ lo ∧ lo ≤ hi := ⟨_, _, rfl, rfl, hz, hb.size⟩
theorem R_born {α : Type} {d : Kd α} {e lo hi b : Nat} {ok : Nat → Prop} {W W' : World} {v : Value} {xs : List α} (h : d.R e W' W.heap.size ok v xs) (elo : lo = W.heap.size) (ehi : hi = W'.heap.size) (hw : b ≤ W.heap.size) : d.R e W' b (fun k => lo ≤ k ∧ k < hi) v xs :=
  Kd.R_mono (Kd.R_lower (Kd.R_bound h) hw) (fun k hk => ⟨by rw [elo]; exact hk.2.1, by rw [ehi]; exact hk.2.2.1⟩)
theorem S_born {α : Type} {d : Kd α} {e lo hi b : Nat} {ok : Nat → Prop} {W W' : World} {v : Value} {xs : List α} (h : Kd.S d e W' W.heap.size ok v xs) (elo : lo = W.heap.size) (ehi : hi = W'.heap.size) (hw : b ≤ W.heap.size) : Kd.S d e W' b (fun k => lo ≤ k ∧ k < hi) v xs :=
  Kd.S_mono (Kd.S_lower (Kd.S_bound h) hw) (fun k hk => ⟨by rw [elo]; exact hk.2.1, by rw [ehi]; exact hk.2.2.1⟩)
/-- Where a result's block is; without one: nowhere below n. -/
theorem own_at (v : Value) (n : Nat) : ∃ b, (∀ k, some k = v.ownBlock → k = b) ∧ (∀ k, k < n → k = b → some k = v.ownBlock) := by
  cases h : v.ownBlock with
  | none => exact ⟨n, (fun k hk => by cases hk), fun k h1 h2 => by omega⟩
  | some b => exact ⟨b, (fun k hk => by injection hk), fun k _ h => by rw [h]⟩
theorem R_born2 {α : Type} {d : Kd α} {e lo hi b q : Nat} {ok : Nat → Prop} {W W' : World} {v : Value} {xs : List α} (h : d.R e W' W.heap.size ok v xs) (hE : d.E = []) (hq : ∀ k, some k = v.ownBlock → k = q) (elo : lo = W.heap.size) (ehi : hi = W'.heap.size) (hw : b ≤ W.heap.size) : d.R e W' b (fun k => (lo ≤ k ∧ k < hi) ∧ k = q) v xs :=
  Kd.R_mono (Kd.R_lower (Kd.R_bound (Kd.R_tight hE h)) hw) (fun k hk => ⟨⟨by rw [elo]; exact hk.2.1, by rw [ehi]; exact hk.2.2.1⟩, hq k hk.1⟩)
theorem S_born2 {α : Type} {d : Kd α} {e lo hi b q : Nat} {u : Value} {W W' : World} {v : Value} {xs : List α} (h : Kd.S d e W' W.heap.size (fun k => some k ≠ u.ownBlock) v xs) (hq : ∀ k, k < W'.heap.size → k = q → some k = u.ownBlock) (elo : lo = W.heap.size) (ehi : hi = W'.heap.size) (hw : b ≤ W.heap.size) : Kd.S d e W' b (fun k => (lo ≤ k ∧ k < hi) ∧ k ≠ q) v xs :=
  Kd.S_mono (Kd.S_lower (Kd.S_bound h) hw) (fun k hk => ⟨⟨by rw [elo]; exact hk.2.1, by rw [ehi]; exact hk.2.2.1⟩, fun he => hk.1 (hq k hk.2.2.1 he)⟩)
theorem R_born3 {α : Type} {d : Kd α} {e lo hi b q : Nat} {u : Value} {W W' : World} {v : Value} {xs : List α} (h : d.R e W' W.heap.size (fun k => some k ≠ u.ownBlock) v xs) (hq : ∀ k, k < W'.heap.size → k = q → some k = u.ownBlock) (elo : lo = W.heap.size) (ehi : hi = W'.heap.size) (hw : b ≤ W.heap.size) : d.R e W' b (fun k => (lo ≤ k ∧ k < hi) ∧ k ≠ q) v xs :=
  Kd.R_mono (Kd.R_lower (Kd.R_bound h) hw) (fun k hk => ⟨⟨by rw [elo]; exact hk.2.1, by rw [ehi]; exact hk.2.2.1⟩, fun he => hk.1 (hq k hk.2.2.1 he)⟩)
/-- One value put into a slot, told plainly. -/
theorem putS : (∀ (a : Act) (v : Value), Act.put a none v = a) ∧ (∀ (a : Act) (n : Nat) (v : Value), Act.put a (some n) v = { a with tmps := a.tmps.setIfInBounds n v }) ∧ (∀ (l : List Value) (i : Nat) (v : Value), l.toArray.setIfInBounds i v = (l.set i v).toArray) ∧ (∀ (v u : Value) (l : List Value), (u :: l).set 0 v = v :: l) ∧ (∀ (v u : Value) (l : List Value) (n : Nat), (u :: l).set (n + 1) v = u :: l.set n v) ∧ (∀ n : Int, IntKind.i64.wrap n = wrap64 n) ∧ (∀ n : Int, IntKind.i32.wrap n = wrap32 n) :=
  ⟨fun _ _ => rfl, fun _ _ _ => rfl, fun _ _ _ => List.setIfInBounds_toArray .., fun _ _ _ => rfl, fun _ _ _ _ => rfl, fun n => by unfold wrap64; exact IntKind.wrap_i64 n, fun n => by unfold wrap32; exact IntKind.wrap_i32 n⟩
/-- A row over three stores into a block of another type. -/
theorem rf3 {α : Type} {d : Kd α} {e t base g : Nat} {W : World} {ok : Nat → Prop} {v : Value} {xs : List α} {cs : Array Value} (h : Aside0 (d.R e W base ok v xs)) (hb : Aside0 (W.heap[g]? = some (.cells cs t (0, 0)))) (a b c : Value) (ht : ∀ q, q ∈ e :: d.E → q ≠ t := by decide) : Aside0 (d.R e (((W.setCell ⟨g, 0, none⟩ a).setCell ⟨g, 1, none⟩ b).setCell ⟨g, 2, none⟩ c) base ok v xs) :=
  ⟨Kd.R_mono (Kd.R_far (p := ⟨g, 2, none⟩) (Kd.R_far (p := ⟨g, 1, none⟩) (Kd.R_far (p := ⟨g, 0, none⟩) (Kd.R_types h.out hb.out ht) (fun _ hk => hk.2) a) (fun _ hk => hk.2) b) (fun _ hk => hk.2) c) (fun _ h_ => h_.1)⟩
theorem vdl {P Q : Prop} (H : Aside0 P) (h : P → Q := by intro h_; (with_reducible repeat (first | apply Kd.V_alloc | apply Kd.V_drewN | apply Kd.V_drew)); exact h_) : Q := h H.out
theorem dd2 {W : World} {a b : Nat} : (W.drewN a).drewN b = W.drewN (a + b) := World.drewN_drewN _ _ _
theorem dd3 {W : World} {a b c : Nat} : (W.drewN (a + b)).drewN c = W.drewN (a + (b + c)) := Eq.trans (World.drewN_drewN _ _ _) (congrArg (World.drewN _) (Nat.add_assoc _ _ _))
end Go.Proofs.YtnknojpijmfefaaGreatDoor.P
