/- Words for what comes to an answer from some number of rounds on; a loop over a list by its index. No function of the program is named here. -/
import Derived.Test.YtemildnlfjijmaaWMore
namespace Go.Proofs.Ytemildnlfjijmaa.U
open Go.RowKit Go.Proofs.YtemildnlfjijmaaW.PrintWords Go.Proofs.YtemildnlfjijmaaW.PrintMore
set_option linter.unusedVariables false

theorem ev_pos {α : Type} {c : Prop} [Decidable c] {a b : Nat → Option α} {r : α} (hc : c) (h : Ev a r) : Ev (fun k => if c then a k else b k) r := Ev.congr (fun k => if_pos hc) h
theorem ev_neg {α : Type} {c : Prop} [Decidable c] {a b : Nat → Option α} {r : α} (hc : ¬ c) (h : Ev b r) : Ev (fun k => if c then a k else b k) r := Ev.congr (fun k => if_neg hc) h
theorem ev_const {α : Type} {g : Option α} {r : α} (h : g = some r) : Ev (fun _ => g) r := ⟨0, fun _ _ => h⟩
theorem ev_eq {α : Type} {g : Nat → Option α} {r r' : α} (h : Ev g r) (e : r = r') : Ev g r' := e ▸ h
/-- A call whose answer doesn't hang on rounds. -/
theorem ev_call {α β : Type} {g : Option α} {f : Nat → α → Option β} {a : α} {r : β} (h : g = some a) (k : Ev (fun n => f n a) r) : Ev (fun n => g.bind (f n)) r := Ev.bind (ev_const h) k
theorem wr {x : Int} (h0 : -9223372036854775808 ≤ x) (h1 : x ≤ 9223372036854775807) : wrap64 x = x := by
  unfold wrap64
  omega
theorem wsucc {i n : Nat} (h : i < n) (hn : n ≤ 9223372036854775807) : wrap64 ((i : Int) + 1) = ((i + 1 : Nat) : Int) := by
  rw [wr (by omega) (by omega)]
  omega
/-- A loop over a list: each element goes on with a new state, or ends it; behind the last one 'fin'. -/
def run {α σ ρ : Type} (step : α → σ → σ ⊕ ρ) (fin : σ → ρ) : List α → σ → ρ
  | [], s => fin s
  | x :: xs, s => match step x s with
    | .inl s' => run step fin xs s'
    | .inr r => r
theorem scan {α σ ρ : Type} (xs : List α) (L : Nat → σ → Int → Option ρ) (step : α → σ → σ ⊕ ρ) (fin : σ → ρ) (Inv : Nat → σ → Prop)
    (hl : ∀ i (h : i < xs.length) s s', Inv i s → step xs[i] s = .inl s' → Inv (i + 1) s' ∧ ∀ r, Ev (fun k => L k s' ((i + 1 : Nat) : Int)) r → Ev (fun k => L k s (i : Int)) r)
    (hr : ∀ i (h : i < xs.length) s r, Inv i s → step xs[i] s = .inr r → Ev (fun k => L k s (i : Int)) r)
    (hf : ∀ s, Inv xs.length s → Ev (fun k => L k s (xs.length : Int)) (fin s)) :
    ∀ d i s, i + d = xs.length → Inv i s → Ev (fun k => L k s (i : Int)) (run step fin (xs.drop i) s) := by
  intro d
  induction d with
  | zero =>
    intro i s hi hI
    obtain rfl : i = xs.length := by omega
    rw [List.drop_of_length_le (Nat.le_refl _)]
    exact hf s hI
  | succ d ih =>
    intro i s hi hI
    have hlt : i < xs.length := by omega
    rw [List.drop_eq_getElem_cons hlt]
    unfold run
    cases hs : step xs[i] s with
    | inl s' =>
      obtain ⟨hI', hk⟩ := hl i hlt s s' hI hs
      exact hk _ (ih (i + 1) s' (by omega) hI')
    | inr r => exact hr i hlt s r hI hs
theorem getD_at {α : Type} (l : List α) (i : Nat) (z : α) (h : i < l.length) : l.getD i z = l[i] := by
  simp [List.getD, h]
theorem rd_at (l : List Int) (i : Nat) (h : i < l.length) : rd l (i : Int) = l[i] := by
  unfold rd
  rw [Int.toNat_natCast]
  exact getD_at l i 0 h

def inr (a b c : Int) : Bool := decide (b ≤ a) && decide (a ≤ c)
theorem inr_iff {a b c : Int} : inr a b c = true ↔ b ≤ a ∧ a ≤ c := by simp [inr]
theorem inr_not {a b c : Int} : inr a b c = false ↔ ¬ (b ≤ a ∧ a ≤ c) := by
  rw [← inr_iff]; simp

/-! Stacks of numbers: each from 1 to 99, none twice, no stack too high. -/
def chkRow : List Int → List Int → Option (List Int)
  | [], s => some s
  | n :: l, s => if inr n 1 99 && !(s.contains n) then chkRow l (n :: s) else none
def chkRows (cap : Int) : List (List Int) → List Int → Option (List Int)
  | [], s => some s
  | r :: l, s => if (r.length : Int) ≤ cap then (chkRow r s).bind (chkRows cap l) else none
theorem chkRow_bad {n : Int} {l s : List Int} (h : (inr n 1 99 && !(s.contains n)) = false) : chkRow (n :: l) s = none := by rw [chkRow, h]; rfl
theorem chkRow_ok {n : Int} {l s : List Int} (h : (inr n 1 99 && !(s.contains n)) = true) : chkRow (n :: l) s = chkRow l (n :: s) := by rw [chkRow, h]; rfl
/-! Lists of whole numbers: equal ones, marked ones. -/
/-- 'mark' from n on: every place a number of its own. -/
def marked : List Int → Int → List Int
  | [], _ => []
  | _ :: l, n => n :: marked l (n + 1)
end Go.Proofs.Ytemildnlfjijmaa.U
