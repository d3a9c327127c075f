/- Marked and held: the laws' test that a result shares no memory, over numbers and rows of numbers. -/
import Derived.Test.YtlnihlmlkdhiaaaPx0
import Derived.Test.YtlnihlmlkdhiaaaPx13
import Derived.Test.YtlnihlmlkdhiaaaPx14
import Derived.Test.YtlnihlmlkdhiaaaUTab
namespace Go.Proofs.Ytlnihlmlkdhiaaa.UK
open Go.RowKit Go.Proofs.YtlnihlmlkdhiaaaW.PrintWords Go.Proofs.YtlnihlmlkdhiaaaW.PrintMore Go.Proofs.Ytlnihlmlkdhiaaa.P Go.Proofs.Ytlnihlmlkdhiaaa.U Go.Proofs.Ytlnihlmlkdhiaaa.UT
set_option linter.unusedVariables false

/-! What holds from some number of rounds on. -/
def EvP (P : Nat → Prop) : Prop := ∃ K, ∀ k, K ≤ k → P k
theorem EvP.rounds {P : Nat → Prop} (h : EvP P) : ∃ k, P k := by
  obtain ⟨K, h⟩ := h
  exact ⟨K, h K (Nat.le_refl _)⟩
theorem EvP.tr : EvP fun _ => True := ⟨0, fun _ _ => trivial⟩
theorem EvP.bind {α : Type} {g : Nat → Option α} {r : α} {Q : Nat → α → Prop} (h : Ev g r) (hq : EvP fun k => Q k r) : EvP fun k => ∃ t, g k = some t ∧ Q k t := by
  obtain ⟨K, h⟩ := h
  obtain ⟨K', h'⟩ := hq
  exact ⟨max K K', fun k hk => ⟨r, h k (by omega), h' k (by omega)⟩⟩
theorem EvP.bind2 {α β : Type} {g : Nat → Option (α × β)} {r : α} {s : β} {Q : Nat → α → β → Prop} (h : Ev g (r, s)) (hq : EvP fun k => Q k r s) : EvP fun k => ∃ t u, g k = some (t, u) ∧ Q k t u := by
  obtain ⟨K, h⟩ := h
  obtain ⟨K', h'⟩ := hq
  exact ⟨max K K', fun k hk => ⟨r, s, h k (by omega), h' k (by omega)⟩⟩
theorem EvP.bind3 {α β γ : Type} {g : Nat → Option (α × β × γ)} {r : α} {s : β} {v : γ} {Q : Nat → α → β → γ → Prop} (h : Ev g (r, s, v)) (hq : EvP fun k => Q k r s v) : EvP fun k => ∃ t u x, g k = some (t, u, x) ∧ Q k t u x := by
  obtain ⟨K, h⟩ := h
  obtain ⟨K', h'⟩ := hq
  exact ⟨max K K', fun k hk => ⟨r, s, v, h k (by omega), h' k (by omega)⟩⟩
theorem EvP.bind4 {α β γ δ : Type} {g : Nat → Option (α × β × γ × δ)} {r : α} {s : β} {v : γ} {z : δ} {Q : Nat → α → β → γ → δ → Prop} (h : Ev g (r, s, v, z)) (hq : EvP fun k => Q k r s v z) : EvP fun k => ∃ t u x y, g k = some (t, u, x, y) ∧ Q k t u x y := by
  obtain ⟨K, h⟩ := h
  obtain ⟨K', h'⟩ := hq
  exact ⟨max K K', fun k hk => ⟨r, s, v, z, h k (by omega), h' k (by omega)⟩⟩
theorem EvP.out {c : Prop} {Q : Nat → Prop} (h : c) : EvP fun k => c ∨ Q k := ⟨0, fun _ _ => Or.inl h⟩
theorem EvP.on {c : Prop} {Q : Nat → Prop} (h : ¬ c) (hq : EvP Q) : EvP fun k => c ∨ ¬ c ∧ Q k := by
  obtain ⟨K, hq⟩ := hq
  exact ⟨K, fun k hk => Or.inr ⟨h, hq k hk⟩⟩
theorem EvP.no {c : Prop} {Q : Nat → Prop} (h : ¬ c) (hq : EvP Q) : EvP fun k => ¬ c ∧ Q k := by
  obtain ⟨K, hq⟩ := hq
  exact ⟨K, fun k hk => ⟨h, hq k hk⟩⟩
theorem EvP.yes {c : Prop} {Q : Nat → Prop} (h : c) (hq : EvP Q) : EvP fun k => c ∧ Q k := by
  obtain ⟨K, hq⟩ := hq
  exact ⟨K, fun k hk => ⟨h, hq k hk⟩⟩

/-! Lists of numbers. -/
def mk1 (m : Nat) (n : Int) : List Int := (List.range m).map fun j : Nat => n + (j : Int)
theorem mk1_length (m : Nat) (n : Int) : (mk1 m n).length = m := by simp [mk1]
theorem mk1_get (m : Nat) (n : Int) (i : Nat) (h : i < (mk1 m n).length) : (mk1 m n)[i] = n + i := by simp [mk1]
theorem mark1_l (n : Int) (hn : 0 ≤ n ∧ n ≤ 4398046511104) (m : Nat) (hm : m ≤ 1048576) : ∀ d i (acc : List Int), i + d = m → acc.length = m → acc.take i = (mk1 m n).take i → Ev (fun k => laws_markIntS.l0 k acc (n + i) (i : Int)) (n + m, mk1 m n) := by
  intro d
  induction d with
  | zero =>
    intro i acc hi ha ht
    refine Ev.step (fun k => by simp only [laws_markIntS.l0]; rfl) (ev_neg (by omega) (ev_const ?_))
    rw [List.take_of_length_le (by omega), List.take_of_length_le (by rw [mk1_length]; omega)] at ht
    rw [ht, show i = m by omega]
  | succ d ih =>
    intro i acc hi ha ht
    have hlt : i < acc.length := by omega
    refine Ev.step (fun k => by simp only [laws_markIntS.l0]; rfl) ?_
    refine ev_pos (by omega) (ev_pos (by omega) ?_)
    rw [wsucc (n := m) (by omega) (by omega), Int.toNat_natCast, wr (x := n + (i : Int) + 1) (by omega) (by omega)]
    rw [show n + (i : Int) + 1 = n + ((i + 1 : Nat) : Int) by omega]
    refine ih (i + 1) _ (by omega) (by rw [List.length_set]; exact ha) ?_
    rw [fill_step ht hlt, List.take_succ_eq_append_getElem (show i < (mk1 m n).length by rw [mk1_length]; omega), mk1_get]
theorem mark1 (l : List Int) (n : Int) (hn : 0 ≤ n ∧ n ≤ 4398046511104) (hm : l.length ≤ 1048576) : Ev (fun k => laws_markIntS.f k l n) (n + (l.length : Int), mk1 l.length n) := by
  unfold laws_markIntS.f
  have h := mark1_l n hn l.length hm l.length 0 l (by omega) rfl (by simp)
  rw [show n + ((0 : Nat) : Int) = n by omega] at h
  exact h
/-! Rows of numbers. -/
def sumL : List (List Int) → Int
  | [] => 0
  | r :: l => (r.length : Int) + sumL l
def mk2 : List (List Int) → Int → List (List Int)
  | [], _ => []
  | r :: l, n => mk1 r.length n :: mk2 l (n + r.length)
theorem mk2_length : ∀ (l : List (List Int)) (n : Int), (mk2 l n).length = l.length
  | [], _ => rfl
  | _ :: l, n => by simp [mk2, mk2_length l]
theorem sumL_cons (r : List Int) (l : List (List Int)) : sumL (r :: l) = (r.length : Int) + sumL l := rfl
theorem mk2_cons (r : List Int) (l : List (List Int)) (n : Int) : mk2 (r :: l) n = mk1 r.length n :: mk2 l (n + r.length) := rfl
theorem sumL_pos : ∀ (l : List (List Int)), 0 ≤ sumL l
  | [] => Int.le_refl 0
  | r :: l => by have := sumL_pos l; unfold sumL; omega
theorem sumL_le (c : Nat) : ∀ (l : List (List Int)), (∀ x, x ∈ l → x.length ≤ c) → sumL l ≤ (l.length : Int) * (c : Int)
  | [], _ => by simp [sumL]
  | r :: l, h => by
    have h1 := sumL_le c l (fun x hx => h x (List.mem_cons_of_mem _ hx))
    have h2 := h r List.mem_cons_self
    unfold sumL
    rw [List.length_cons, show ((l.length + 1 : Nat) : Int) * (c : Int) = (l.length : Int) * (c : Int) + c by rw [Int.natCast_add, Int.add_mul]; simp]
    omega
theorem set_prefix (pre : List (List Int)) (x y : List Int) (suf : List (List Int)) : (pre ++ x :: suf).set pre.length y = pre ++ y :: suf := by
  simp
theorem getD_prefix (pre : List (List Int)) (x : List Int) (suf : List (List Int)) : (pre ++ x :: suf).getD pre.length [] = x := by
  simp [List.getD]
theorem mark2_l : ∀ (suf pre : List (List Int)) (n : Int), 0 ≤ n → n + sumL suf ≤ 4398046511104 → (pre ++ suf).length ≤ 1048576 → (∀ x, x ∈ suf → x.length ≤ 1048576) →
    Ev (fun k => laws_markIntSS.l0 k (pre ++ suf) n (pre.length : Int)) (n + sumL suf, pre ++ mk2 suf n)
  | [], pre, n, h0, h1, hl, hx => by
    refine Ev.step (fun k => by simp only [laws_markIntSS.l0]; rfl) (ev_neg (by simp) (ev_const ?_))
    simp [sumL, mk2]
  | r :: suf, pre, n, h0, h1, hl, hx => by
    have hr := hx r List.mem_cons_self
    have hp := sumL_pos suf
    rw [sumL_cons] at h1
    have hl2 : pre.length + suf.length + 1 ≤ 1048576 := by simp at hl; omega
    refine Ev.step (fun k => by simp only [laws_markIntSS.l0]; rfl) (ev_pos (by simp; omega) (ev_pos (by omega) ?_))
    rw [Int.toNat_natCast, getD_prefix, wsucc (n := 1048576) (by omega) (by omega)]
    refine Ev.bind (mark1 r n ⟨h0, by omega⟩ hr) ?_
    rw [set_prefix]
    have ih := mark2_l suf (pre ++ [mk1 r.length n]) (n + r.length) (by omega) (by omega) (by simp; omega) (fun x h => hx x (List.mem_cons_of_mem _ h))
    rw [List.length_append, List.length_singleton, List.append_assoc, List.append_assoc] at ih
    refine ev_eq ih ?_
    rw [mk2_cons, sumL_cons]
    simp; omega
theorem mark2 (l : List (List Int)) (n : Int) (h0 : 0 ≤ n) (h1 : n + sumL l ≤ 4398046511104) (hl : l.length ≤ 1048576) (hx : ∀ x, x ∈ l → x.length ≤ 1048576) : Ev (fun k => laws_markIntSS.f k l n) (n + sumL l, mk2 l n) := by
  unfold laws_markIntSS.f
  exact mark2_l l [] n h0 h1 hl hx
theorem sumL_big {l : List (List Int)} (hl : l.length ≤ 1048576) (hx : ∀ x, x ∈ l → x.length ≤ 1048576) : sumL l ≤ 1099511627776 := by
  have h := sumL_le 1048576 l hx
  have h2 : (l.length : Int) * ((1048576 : Nat) : Int) ≤ 1048576 * 1048576 := by
    have := Int.mul_le_mul_of_nonneg_right (show (l.length : Int) ≤ 1048576 by omega) (show (0 : Int) ≤ ((1048576 : Nat) : Int) by omega)
    simpa using this
  omega
end Go.Proofs.Ytlnihlmlkdhiaaa.UK
