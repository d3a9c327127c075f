/- Marked and held, and equal: lists of numbers alone. -/
import Derived.Test.YtcklpjdkhbfikaaPx0
import Derived.Test.YtcklpjdkhbfikaaPx4
import Derived.Test.YtcklpjdkhbfikaaU
namespace Go.Proofs.Ytcklpjdkhbfikaa.UK
open Go.RowKit Go.Proofs.YtcklpjdkhbfikaaW.PrintWords Go.Proofs.YtcklpjdkhbfikaaW.PrintMore Go.Proofs.Ytcklpjdkhbfikaa.P Go.Proofs.Ytcklpjdkhbfikaa.U
set_option linter.unusedVariables false

theorem eq1_l (l : List Int) (hn : l.length ≤ 9223372036854775807) : ∀ d i, i + d = l.length → Ev (fun k => laws_eqIntS.l0 k l l (i : Int)) true := by
  intro d
  induction d with
  | zero => intro i hi; exact Ev.step (fun k => by simp only [laws_eqIntS.l0]; rfl) (ev_neg (by omega) (ev_const rfl))
  | succ d ih =>
    intro i hi
    refine Ev.step (fun k => by simp only [laws_eqIntS.l0]; rfl) ?_
    refine ev_pos (by omega) (ev_pos (by omega) (ev_pos (by omega) (ev_pos (by simp) ?_)))
    rw [wsucc (show i < l.length by omega) (by omega)]
    exact ih (i + 1) (by omega)
theorem eq1 (l : List Int) (hn : l.length ≤ 9223372036854775807) : Ev (fun k => laws_eqIntS.f k l l) true := by
  unfold laws_eqIntS.f
  exact ev_pos rfl (eq1_l l hn l.length 0 (by omega))
/-! What holds from some number of rounds on. -/
def EvP (P : Nat → Prop) : Prop := ∃ K, ∀ k, K ≤ k → P k
theorem EvP.rounds {P : Nat → Prop} (h : EvP P) : ∃ k, P k := by
  obtain ⟨K, h⟩ := h
  exact ⟨K, h K (Nat.le_refl _)⟩
theorem EvP.tr : EvP fun _ => True := ⟨0, fun _ _ => trivial⟩
theorem EvP.bind {α : Type} {g : Nat → Option α} {r : α} {Q : Nat → α → Prop} (h : Ev g r) (hq : EvP fun k => Q k r) : EvP fun k => ∃ t, g k = some t ∧ Q k t := by
  obtain ⟨K, h⟩ := h
  obtain ⟨K', h'⟩ := hq
  exact ⟨max K K', fun k hk => ⟨r, h k (by omega), h' k (by omega)⟩⟩
theorem EvP.bind2 {α β : Type} {g : Nat → Option (α × β)} {r : α} {s : β} {Q : Nat → α → β → Prop} (h : Ev g (r, s)) (hq : EvP fun k => Q k r s) : EvP fun k => ∃ t u, g k = some (t, u) ∧ Q k t u := by
  obtain ⟨K, h⟩ := h
  obtain ⟨K', h'⟩ := hq
  exact ⟨max K K', fun k hk => ⟨r, s, h k (by omega), h' k (by omega)⟩⟩
theorem EvP.bind3 {α β γ : Type} {g : Nat → Option (α × β × γ)} {r : α} {s : β} {v : γ} {Q : Nat → α → β → γ → Prop} (h : Ev g (r, s, v)) (hq : EvP fun k => Q k r s v) : EvP fun k => ∃ t u x, g k = some (t, u, x) ∧ Q k t u x := by
  obtain ⟨K, h⟩ := h
  obtain ⟨K', h'⟩ := hq
  exact ⟨max K K', fun k hk => ⟨r, s, v, h k (by omega), h' k (by omega)⟩⟩
theorem EvP.bind4 {α β γ δ : Type} {g : Nat → Option (α × β × γ × δ)} {r : α} {s : β} {v : γ} {z : δ} {Q : Nat → α → β → γ → δ → Prop} (h : Ev g (r, s, v, z)) (hq : EvP fun k => Q k r s v z) : EvP fun k => ∃ t u x y, g k = some (t, u, x, y) ∧ Q k t u x y := by
  obtain ⟨K, h⟩ := h
  obtain ⟨K', h'⟩ := hq
  exact ⟨max K K', fun k hk => ⟨r, s, v, z, h k (by omega), h' k (by omega)⟩⟩
theorem EvP.out {c : Prop} {Q : Nat → Prop} (h : c) : EvP fun k => c ∨ Q k := ⟨0, fun _ _ => Or.inl h⟩
theorem EvP.on {c : Prop} {Q : Nat → Prop} (h : ¬ c) (hq : EvP Q) : EvP fun k => c ∨ ¬ c ∧ Q k := by
  obtain ⟨K, hq⟩ := hq
  exact ⟨K, fun k hk => Or.inr ⟨h, hq k hk⟩⟩
theorem EvP.no {c : Prop} {Q : Nat → Prop} (h : ¬ c) (hq : EvP Q) : EvP fun k => ¬ c ∧ Q k := by
  obtain ⟨K, hq⟩ := hq
  exact ⟨K, fun k hk => ⟨h, hq k hk⟩⟩
theorem EvP.yes {c : Prop} {Q : Nat → Prop} (h : c) (hq : EvP Q) : EvP fun k => c ∧ Q k := by
  obtain ⟨K, hq⟩ := hq
  exact ⟨K, fun k hk => ⟨h, hq k hk⟩⟩

/-! Lists of numbers. -/
def mk1 (m : Nat) (n : Int) : List Int := (List.range m).map fun j : Nat => n + (j : Int)
theorem mk1_length (m : Nat) (n : Int) : (mk1 m n).length = m := by simp [mk1]
theorem mk1_get (m : Nat) (n : Int) (i : Nat) (h : i < (mk1 m n).length) : (mk1 m n)[i] = n + i := by simp [mk1]
theorem mark1_l (n : Int) (hn : 0 ≤ n ∧ n ≤ 4398046511104) (m : Nat) (hm : m ≤ 1048576) : ∀ d i (acc : List Int), i + d = m → acc.length = m → acc.take i = (mk1 m n).take i → Ev (fun k => laws_markIntS.l0 k acc (n + i) (i : Int)) (n + m, mk1 m n) := by
  intro d
  induction d with
  | zero =>
    intro i acc hi ha ht
    refine Ev.step (fun k => by simp only [laws_markIntS.l0]; rfl) (ev_neg (by omega) (ev_const ?_))
    rw [List.take_of_length_le (by omega), List.take_of_length_le (by rw [mk1_length]; omega)] at ht
    rw [ht, show i = m by omega]
  | succ d ih =>
    intro i acc hi ha ht
    have hlt : i < acc.length := by omega
    refine Ev.step (fun k => by simp only [laws_markIntS.l0]; rfl) ?_
    refine ev_pos (by omega) (ev_pos (by omega) ?_)
    rw [wsucc (n := m) (by omega) (by omega), Int.toNat_natCast, wr (x := n + (i : Int) + 1) (by omega) (by omega)]
    rw [show n + (i : Int) + 1 = n + ((i + 1 : Nat) : Int) by omega]
    refine ih (i + 1) _ (by omega) (by rw [List.length_set]; exact ha) ?_
    rw [fill_step ht hlt, List.take_succ_eq_append_getElem (show i < (mk1 m n).length by rw [mk1_length]; omega), mk1_get]
theorem mark1 (l : List Int) (n : Int) (hn : 0 ≤ n ∧ n ≤ 4398046511104) (hm : l.length ≤ 1048576) : Ev (fun k => laws_markIntS.f k l n) (n + (l.length : Int), mk1 l.length n) := by
  unfold laws_markIntS.f
  have h := mark1_l n hn l.length hm l.length 0 l (by omega) rfl (by simp)
  rw [show n + ((0 : Nat) : Int) = n by omega] at h
  exact h
theorem held1_l (n : Int) (hn : 0 ≤ n ∧ n ≤ 4398046511104) (m : Nat) (hm : m ≤ 1048576) : ∀ d i, i + d = m → Ev (fun k => laws_heldIntS.l0 k (mk1 m n) (n + i) (i : Int)) (n + m) := by
  intro d
  induction d with
  | zero =>
    intro i hi
    refine Ev.step (fun k => by simp only [laws_heldIntS.l0]; rfl) (ev_neg (by rw [mk1_length]; omega) (ev_const ?_))
    rw [show i = m by omega]
  | succ d ih =>
    intro i hi
    have hlt : i < (mk1 m n).length := by rw [mk1_length]; omega
    refine Ev.step (fun k => by simp only [laws_heldIntS.l0]; rfl) (ev_pos (by omega) (ev_pos (by omega) ?_))
    rw [wsucc (n := m) (by omega) (by omega), wr (x := n + (i : Int) + 1) (by omega) (by omega), rd_at _ i hlt, mk1_get]
    refine ev_pos rfl ?_
    rw [show n + (i : Int) + 1 = n + ((i + 1 : Nat) : Int) by omega]
    exact ih (i + 1) (by omega)
theorem held1 (m : Nat) (n : Int) (hn : 0 ≤ n ∧ n ≤ 4398046511104) (hm : m ≤ 1048576) : Ev (fun k => laws_heldIntS.f k (mk1 m n) n) (n + (m : Int)) := by
  unfold laws_heldIntS.f
  have h := held1_l n hn m hm m 0 (by omega)
  rw [show n + ((0 : Nat) : Int) = n by omega] at h
  exact h

end Go.Proofs.Ytcklpjdkhbfikaa.UK
