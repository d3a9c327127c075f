/- UTabT, UBayT0, USt, UMark, UMarkH, UMark2, UPlan0, UPut, URows, as one text. -/
import Derived.Test.YtgeefafkjokmeaaPx0
import Derived.Test.YtgeefafkjokmeaaPx1
import Derived.Test.YtgeefafkjokmeaaPx17
import Derived.Test.YtgeefafkjokmeaaPx18
import Derived.Test.YtgeefafkjokmeaaPx19
import Derived.Test.YtgeefafkjokmeaaPx2
import Derived.Test.YtgeefafkjokmeaaPx20
import Derived.Test.YtgeefafkjokmeaaPx21
import Derived.Test.YtgeefafkjokmeaaPx3
import Derived.Test.YtgeefafkjokmeaaPx4
import Derived.Test.YtgeefafkjokmeaaPx5
import Derived.Test.YtgeefafkjokmeaaPx8
import Derived.Test.YtgeefafkjokmeaaPx9
import Derived.Test.YtgeefafkjokmeaaU
import Derived.Test.YtgeefafkjokmeaaUSort
import Derived.Test.YtgeefafkjokmeaaUComp
namespace Go.Proofs.Ytgeefafkjokmeaa.UT
open Go.RowKit Go.Proofs.YtgeefafkjokmeaaW.PrintWords Go.Proofs.YtgeefafkjokmeaaW.PrintMore Go.Proofs.Ytgeefafkjokmeaa.P Go.Proofs.Ytgeefafkjokmeaa.U
set_option linter.unusedVariables false

theorem rd_l1 (l : List (List Int)) (i : Nat) (h : i < l.length) : rd_L1 l (i : Int) = l[i] := by
  unfold rd_L1
  rw [Int.toNat_natCast]
  exact getD_at l i _ h

theorem sz1 (l : List Int) (n : Int) (hn : 0 ≤ n ∧ n ≤ 1048576) (hl : l.length ≤ 9223372036854775807) : laws_szIntS.f l n = some (if n - (l.length : Int) < 0 then -1 else n - (l.length : Int)) := by
  unfold laws_szIntS.f
  rw [wr (by omega) (by omega)]
  split <;> rfl
theorem to1_l (l : List Int) (hn : l.length ≤ 1048576) : ∀ d i (acc : List Int), i + d = l.length → acc.length = l.length → acc.take i = l.take i → Ev (fun k => laws_toIntS.l0 k l acc (i : Int)) l := by
  intro d
  induction d with
  | zero =>
    intro i acc hi ha ht
    refine Ev.step (fun k => by simp only [laws_toIntS.l0]; rfl) (ev_neg (by omega) (ev_const ?_))
    rw [List.take_of_length_le (by omega), List.take_of_length_le (by omega)] at ht
    rw [ht]
  | succ d ih =>
    intro i acc hi ha ht
    have hlt : i < l.length := by omega
    refine Ev.step (fun k => by simp only [laws_toIntS.l0]; rfl) ?_
    refine ev_pos (by omega) (ev_pos (by omega) (ev_pos (by omega) ?_))
    rw [wsucc hlt (by omega), Int.toNat_natCast, rd_at l i hlt]
    refine ih (i + 1) _ (by omega) (by rw [List.length_set]; exact ha) ?_
    rw [fill_step ht (by omega), List.take_succ_eq_append_getElem hlt]
theorem to1 (l : List Int) (hn : l.length ≤ 1048576) : Ev (fun k => laws_toIntS.f k l) l := by
  unfold laws_toIntS.f
  refine ev_pos (by omega) (ev_pos (by omega) ?_)
  exact to1_l l hn l.length 0 _ (by omega) (by simp) (by simp)
theorem eq1_l (l : List Int) (hn : l.length ≤ 9223372036854775807) : ∀ d i, i + d = l.length → Ev (fun k => laws_eqIntS.l0 k l l (i : Int)) true := by
  intro d
  induction d with
  | zero => intro i hi; exact Ev.step (fun k => by simp only [laws_eqIntS.l0]; rfl) (ev_neg (by omega) (ev_const rfl))
  | succ d ih =>
    intro i hi
    refine Ev.step (fun k => by simp only [laws_eqIntS.l0]; rfl) ?_
    refine ev_pos (by omega) (ev_pos (by omega) (ev_pos (by omega) (ev_pos (by simp) ?_)))
    rw [wsucc (show i < l.length by omega) (by omega)]
    exact ih (i + 1) (by omega)
theorem eq1 (l : List Int) (hn : l.length ≤ 9223372036854775807) : Ev (fun k => laws_eqIntS.f k l l) true := by
  unfold laws_eqIntS.f
  exact ev_pos rfl (eq1_l l hn l.length 0 (by omega))
theorem eq_l (l : List (List Int)) (hn : l.length ≤ 9223372036854775807) (hx : ∀ x, x ∈ l → x.length ≤ 9223372036854775807) : ∀ d i, i + d = l.length → Ev (fun k => laws_eqIntSS.l0 k l l (i : Int)) true := by
  intro d
  induction d with
  | zero => intro i hi; exact Ev.step (fun k => by simp only [laws_eqIntSS.l0]; rfl) (ev_neg (by omega) (ev_const rfl))
  | succ d ih =>
    intro i hi
    have hlt : i < l.length := by omega
    refine Ev.step (fun k => by simp only [laws_eqIntSS.l0]; rfl) ?_
    refine ev_pos (by omega) (ev_pos (by omega) (ev_pos (by omega) ?_))
    rw [rd_l1 l i hlt]
    refine Ev.bind (eq1 _ (hx _ (List.getElem_mem hlt))) (ev_pos rfl ?_)
    rw [wsucc hlt hn]
    exact ih (i + 1) (by omega)
theorem eq_ev (l : List (List Int)) (hn : l.length ≤ 9223372036854775807) (hx : ∀ x, x ∈ l → x.length ≤ 9223372036854775807) : Ev (fun k => laws_eqIntSS.f k l l) true := by
  unfold laws_eqIntSS.f
  exact ev_pos rfl (eq_l l hn hx l.length 0 (by omega))

theorem in_spec (a b c : Int) : spec_l1In.f a b c = some (inr a b c) := by
  unfold spec_l1In.f inr
  by_cases h : b ≤ a <;> simp [h]
theorem has_l (l : List Int) (v : Int) (hn : l.length ≤ 9223372036854775807) : ∀ d i, i + d = l.length → Ev (fun k => spec_l1Has.l0 k l v (i : Int)) ((l.drop i).contains v) := by
  intro d
  induction d with
  | zero =>
    intro i hi
    refine Ev.step (fun k => by simp only [spec_l1Has.l0]; rfl) (ev_neg (by omega) (ev_const ?_))
    rw [List.drop_of_length_le (by omega)]; rfl
  | succ d ih =>
    intro i hi
    have hlt : i < l.length := by omega
    refine Ev.step (fun k => by simp only [spec_l1Has.l0]; rfl) ?_
    refine ev_pos (by omega) (ev_pos (by omega) ?_)
    rw [rd_at l i hlt, wsucc hlt hn, List.drop_eq_getElem_cons hlt, List.contains_cons]
    by_cases e : l[i] = v
    · exact ev_eq (ev_pos e (ev_const rfl)) (by simp [e])
    · exact ev_eq (ev_neg e (ih (i + 1) (by omega))) (by simp [Ne.symm e])
theorem has_ev (l : List Int) (v : Int) (hn : l.length ≤ 9223372036854775807) : Ev (fun k => spec_l1Has.f k l v) (l.contains v) := by
  unfold spec_l1Has.f
  exact has_l l v hn l.length 0 (by omega)
end Go.Proofs.Ytgeefafkjokmeaa.UT
namespace Go.Proofs.Ytgeefafkjokmeaa.UB
open Go.RowKit Go.Proofs.YtgeefafkjokmeaaW.PrintWords Go.Proofs.YtgeefafkjokmeaaW.PrintMore Go.Proofs.Ytgeefafkjokmeaa.P Go.Proofs.Ytgeefafkjokmeaa.U Go.Proofs.Ytgeefafkjokmeaa.UT
set_option linter.unusedVariables false

def okBay (h : Int) (l : List (List Int)) : Bool := inr h 1 4 && (inr (l.length : Int) 1 5 && (chkRows h l []).isSome)
theorem contains_rev (s : List Int) (n : Int) : s.reverse.contains n = s.contains n := by
  rw [Bool.eq_iff_iff]; simp
/-- The reference's loops: what is left of the check. -/
theorem good_l (h : Int) (l : List (List Int)) (hn : l.length ≤ 9223372036854775807) (hx : ∀ x, x ∈ l → x.length ≤ 1048576) : ∀ d i (s : List Int), i + d = l.length → s.length ≤ i * 1048576 → l.length ≤ 1048576 →
    Ev (fun k => spec_l9Good.l0 k s.reverse (i : Int) h l) ((chkRows h (l.drop i) s).isSome) := by
  intro d
  induction d with
  | zero =>
    intro i s hi hs _
    refine Ev.step (fun k => by simp only [spec_l9Good.l0]; rfl) ?_
    refine ev_neg (by omega) (ev_const ?_)
    rw [List.drop_of_length_le (by omega)]; rfl
  | succ d ih =>
    intro i s hi hs hll
    have hlt : i < l.length := by omega
    refine Ev.step (fun k => by simp only [spec_l9Good.l0]; rfl) ?_
    refine ev_pos (by omega) (ev_pos (by omega) ?_)
    rw [rd_l1 l i hlt, List.drop_eq_getElem_cons hlt]
    have hxi := hx _ (List.getElem_mem hlt)
    unfold chkRows
    by_cases hc : (l[i].length : Int) ≤ h
    · rw [if_pos hc]
      refine ev_neg (by omega) ?_
      have inner : ∀ e j (s : List Int), j + e = l[i].length → s.length ≤ i * 1048576 + j → Ev (fun k => spec_l9Good.l1 k s.reverse (i : Int) (j : Int) h l) (((chkRow (l[i].drop j) s).bind (chkRows h (l.drop (i + 1)))).isSome) := by
        intro e
        induction e with
        | zero =>
          intro j s hj hs
          refine Ev.step (fun k => by simp only [spec_l9Good.l1]; rfl) ?_
          refine ev_pos (by omega) (ev_pos (by omega) ?_)
          rw [rd_l1 l i hlt, wsucc hlt hn]
          refine ev_neg (by omega) ?_
          rw [List.drop_of_length_le (by omega)]
          exact ih (i + 1) s (by omega) (by omega) hll
        | succ e ihe =>
          intro j s hj hs
          have hjt : j < l[i].length := by omega
          refine Ev.step (fun k => by simp only [spec_l9Good.l1]; rfl) ?_
          refine ev_pos (by omega) (ev_pos (by omega) ?_)
          rw [rd_l1 l i hlt, rd_at _ j hjt, wsucc hjt (by omega), List.drop_eq_getElem_cons hjt]
          refine ev_pos (by omega) (ev_pos (by omega) ?_)
          refine ev_call (in_spec _ _ _) ?_
          cases h1 : inr l[i][j] 1 99
          · exact ev_eq (ev_neg (by simp) (ev_const rfl)) (by rw [chkRow_bad (by rw [h1]; rfl)]; rfl)
          refine ev_pos rfl ?_
          have hh := has_ev s.reverse l[i][j] (by rw [List.length_reverse]; omega)
          rw [contains_rev] at hh
          refine Ev.bind hh ?_
          cases h2 : s.contains l[i][j]
          · refine ev_neg (by simp) (ev_pos (by rw [List.length_reverse]; omega) ?_)
            rw [chkRow_ok (by rw [h1, h2]; rfl)]
            have e2 := ihe (j + 1) (l[i][j] :: s) (by omega) (by rw [List.length_cons]; omega)
            rw [List.reverse_cons] at e2
            exact e2
          · exact ev_eq (ev_pos rfl (ev_const rfl)) (by rw [chkRow_bad (by rw [h1, h2]; rfl)]; rfl)
      exact inner l[i].length 0 s (by omega) (Nat.le_trans hs (Nat.le_add_right _ _))
    · rw [if_neg hc]
      exact ev_pos (by omega) (ev_const rfl)
theorem good_spec (h : Int) (l : List (List Int)) (hn : l.length ≤ 1048576) (hx : ∀ x, x ∈ l → x.length ≤ 1048576) : Ev (fun k => spec_l9Good.f k h l) (okBay h l) := by
  unfold spec_l9Good.f okBay
  refine ev_call (in_spec _ _ _) ?_
  cases h1 : inr h 1 4
  · refine ev_neg (by simp) ?_
    refine Ev.step (fun k => by simp only [spec_l9Good.j0]; rfl) ?_
    exact ev_pos (by simp) (ev_const rfl)
  refine ev_pos rfl (ev_call (in_spec _ _ _) ?_)
  cases h2 : inr (l.length : Int) 1 5
  · refine Ev.step (fun k => by simp only [spec_l9Good.j0]; rfl) ?_
    exact ev_pos (by simp) (ev_const rfl)
  · refine Ev.step (fun k => by simp only [spec_l9Good.j0]; rfl) ?_
    exact ev_neg (by simp) (good_l h l (by omega) hx l.length 0 [] (by omega) (by simp) hn)
end Go.Proofs.Ytgeefafkjokmeaa.UB
namespace Go.Proofs.Ytgeefafkjokmeaa.UB
open Go.RowKit Go.Proofs.YtgeefafkjokmeaaW.PrintWords Go.Proofs.YtgeefafkjokmeaaW.PrintMore Go.Proofs.Ytgeefafkjokmeaa.P Go.Proofs.Ytgeefafkjokmeaa.U Go.Proofs.Ytgeefafkjokmeaa.UT
set_option linter.unusedVariables false

theorem in_impl (a b c : Int) : impl_within.f a b c = some (inr a b c) := by
  unfold impl_within.f inr
  by_cases h : b ≤ a <;> simp [h]
theorem all_not_any (p : Int → Bool) : ∀ l : List Int, l.all p = !(l.any fun x => !p x)
  | [] => rfl
  | x :: l => by rw [List.all_cons, List.any_cons, all_not_any p l]; cases p x <;> simp
/-! Stowages. -/
theorem ports_l (a b : Int) (l : List Int) (hn : l.length ≤ 9223372036854775807) : ∀ d i, i + d = l.length → Ev (fun k => spec_l10Good.l0 k (i : Int) a b l) ((l.drop i).all (fun x => inr x 1 9)) := by
  intro d
  induction d with
  | zero =>
    intro i hi
    refine Ev.step (fun k => by simp only [spec_l10Good.l0]; rfl) ?_
    refine ev_neg (by omega) (ev_const ?_)
    rw [List.drop_of_length_le (by omega)]; simp
  | succ d ih =>
    intro i hi
    have hlt : i < l.length := by omega
    refine Ev.step (fun k => by simp only [spec_l10Good.l0]; rfl) ?_
    rw [rd_at l i hlt, wsucc hlt hn, List.drop_eq_getElem_cons hlt, List.all_cons]
    refine ev_pos (by omega) (ev_pos (by omega) (ev_call (in_spec _ _ _) ?_))
    cases h : inr l[i] 1 9
    · exact ev_neg (by simp) (ev_const (by simp))
    · exact ev_eq (ev_pos rfl (ih (i + 1) (by omega))) (by simp)
theorem st_spec (a b : Int) (l : List Int) (hn : l.length ≤ 9223372036854775807) : Ev (fun k => spec_l10Good.f k a b l) (okSt a b l) := by
  unfold spec_l10Good.f okSt
  have fs : Ev (fun k => spec_l10Good.j0 k true a b l) false := by
    refine Ev.step (fun k => by simp only [spec_l10Good.j0]; rfl) ?_
    exact ev_pos (by simp) (ev_const rfl)
  refine ev_call (in_spec _ _ _) ?_
  cases h1 : inr a 1 5
  · exact ev_neg (by simp) fs
  refine ev_pos rfl (ev_call (in_spec _ _ _) ?_)
  cases h2 : inr b 1 4
  · exact ev_neg (by simp) fs
  refine ev_pos rfl ?_
  have hp := impl_IsValidStowage.prod h1 h2
  rw [hp]
  by_cases h3 : (l.length : Int) ≤ 7
  · refine ev_neg (by omega) ?_
    rw [decide_eq_true h3]
    by_cases h4 : (l.length : Int) ≤ a * b
    · rw [decide_eq_true h4]
      refine Ev.step (fun k => by simp only [spec_l10Good.j0]; rfl) ?_
      refine ev_neg (by simp; omega) ?_
      exact ev_eq (ports_l a b l hn l.length 0 (by omega)) (by rw [List.drop_zero, all_not_any]; simp)
    · rw [decide_eq_false h4]
      refine Ev.step (fun k => by simp only [spec_l10Good.j0]; rfl) ?_
      exact ev_pos (by simp; omega) (ev_const (by simp))
  · rw [decide_eq_false h3]
    exact ev_eq (ev_pos (by omega) fs) (by simp)
end Go.Proofs.Ytgeefafkjokmeaa.UB
namespace Go.Proofs.Ytgeefafkjokmeaa.UK
open Go.RowKit Go.Proofs.YtgeefafkjokmeaaW.PrintWords Go.Proofs.YtgeefafkjokmeaaW.PrintMore Go.Proofs.Ytgeefafkjokmeaa.P Go.Proofs.Ytgeefafkjokmeaa.U Go.Proofs.Ytgeefafkjokmeaa.UT
set_option linter.unusedVariables false

/-! What holds from some number of rounds on. -/
def EvP (P : Nat → Prop) : Prop := ∃ K, ∀ k, K ≤ k → P k
theorem EvP.rounds {P : Nat → Prop} (h : EvP P) : ∃ k, P k := by
  obtain ⟨K, h⟩ := h
  exact ⟨K, h K (Nat.le_refl _)⟩
theorem EvP.tr : EvP fun _ => True := ⟨0, fun _ _ => trivial⟩
theorem EvP.bind {α : Type} {g : Nat → Option α} {r : α} {Q : Nat → α → Prop} (h : Ev g r) (hq : EvP fun k => Q k r) : EvP fun k => ∃ t, g k = some t ∧ Q k t := by
  obtain ⟨K, h⟩ := h
  obtain ⟨K', h'⟩ := hq
  exact ⟨max K K', fun k hk => ⟨r, h k (by omega), h' k (by omega)⟩⟩
theorem EvP.bind2 {α β : Type} {g : Nat → Option (α × β)} {r : α} {s : β} {Q : Nat → α → β → Prop} (h : Ev g (r, s)) (hq : EvP fun k => Q k r s) : EvP fun k => ∃ t u, g k = some (t, u) ∧ Q k t u := by
  obtain ⟨K, h⟩ := h
  obtain ⟨K', h'⟩ := hq
  exact ⟨max K K', fun k hk => ⟨r, s, h k (by omega), h' k (by omega)⟩⟩
theorem EvP.bind3 {α β γ : Type} {g : Nat → Option (α × β × γ)} {r : α} {s : β} {v : γ} {Q : Nat → α → β → γ → Prop} (h : Ev g (r, s, v)) (hq : EvP fun k => Q k r s v) : EvP fun k => ∃ t u x, g k = some (t, u, x) ∧ Q k t u x := by
  obtain ⟨K, h⟩ := h
  obtain ⟨K', h'⟩ := hq
  exact ⟨max K K', fun k hk => ⟨r, s, v, h k (by omega), h' k (by omega)⟩⟩
theorem EvP.bind4 {α β γ δ : Type} {g : Nat → Option (α × β × γ × δ)} {r : α} {s : β} {v : γ} {z : δ} {Q : Nat → α → β → γ → δ → Prop} (h : Ev g (r, s, v, z)) (hq : EvP fun k => Q k r s v z) : EvP fun k => ∃ t u x y, g k = some (t, u, x, y) ∧ Q k t u x y := by
  obtain ⟨K, h⟩ := h
  obtain ⟨K', h'⟩ := hq
  exact ⟨max K K', fun k hk => ⟨r, s, v, z, h k (by omega), h' k (by omega)⟩⟩
theorem EvP.out {c : Prop} {Q : Nat → Prop} (h : c) : EvP fun k => c ∨ Q k := ⟨0, fun _ _ => Or.inl h⟩
theorem EvP.on {c : Prop} {Q : Nat → Prop} (h : ¬ c) (hq : EvP Q) : EvP fun k => c ∨ ¬ c ∧ Q k := by
  obtain ⟨K, hq⟩ := hq
  exact ⟨K, fun k hk => Or.inr ⟨h, hq k hk⟩⟩
theorem EvP.no {c : Prop} {Q : Nat → Prop} (h : ¬ c) (hq : EvP Q) : EvP fun k => ¬ c ∧ Q k := by
  obtain ⟨K, hq⟩ := hq
  exact ⟨K, fun k hk => ⟨h, hq k hk⟩⟩
theorem EvP.yes {c : Prop} {Q : Nat → Prop} (h : c) (hq : EvP Q) : EvP fun k => c ∧ Q k := by
  obtain ⟨K, hq⟩ := hq
  exact ⟨K, fun k hk => ⟨h, hq k hk⟩⟩

/-! Lists of numbers. -/
def mk1 (m : Nat) (n : Int) : List Int := (List.range m).map fun j : Nat => n + (j : Int)
theorem mk1_length (m : Nat) (n : Int) : (mk1 m n).length = m := by simp [mk1]
theorem mk1_get (m : Nat) (n : Int) (i : Nat) (h : i < (mk1 m n).length) : (mk1 m n)[i] = n + i := by simp [mk1]
theorem mark1_l (n : Int) (hn : 0 ≤ n ∧ n ≤ 4398046511104) (m : Nat) (hm : m ≤ 1048576) : ∀ d i (acc : List Int), i + d = m → acc.length = m → acc.take i = (mk1 m n).take i → Ev (fun k => laws_markIntS.l0 k acc (n + i) (i : Int)) (n + m, mk1 m n) := by
  intro d
  induction d with
  | zero =>
    intro i acc hi ha ht
    refine Ev.step (fun k => by simp only [laws_markIntS.l0]; rfl) (ev_neg (by omega) (ev_const ?_))
    rw [List.take_of_length_le (by omega), List.take_of_length_le (by rw [mk1_length]; omega)] at ht
    rw [ht, show i = m by omega]
  | succ d ih =>
    intro i acc hi ha ht
    have hlt : i < acc.length := by omega
    refine Ev.step (fun k => by simp only [laws_markIntS.l0]; rfl) ?_
    refine ev_pos (by omega) (ev_pos (by omega) ?_)
    rw [wsucc (n := m) (by omega) (by omega), Int.toNat_natCast, wr (x := n + (i : Int) + 1) (by omega) (by omega)]
    rw [show n + (i : Int) + 1 = n + ((i + 1 : Nat) : Int) by omega]
    refine ih (i + 1) _ (by omega) (by rw [List.length_set]; exact ha) ?_
    rw [fill_step ht hlt, List.take_succ_eq_append_getElem (show i < (mk1 m n).length by rw [mk1_length]; omega), mk1_get]
theorem mark1 (l : List Int) (n : Int) (hn : 0 ≤ n ∧ n ≤ 4398046511104) (hm : l.length ≤ 1048576) : Ev (fun k => laws_markIntS.f k l n) (n + (l.length : Int), mk1 l.length n) := by
  unfold laws_markIntS.f
  have h := mark1_l n hn l.length hm l.length 0 l (by omega) rfl (by simp)
  rw [show n + ((0 : Nat) : Int) = n by omega] at h
  exact h
/-! Rows of numbers. -/
def sumL : List (List Int) → Int
  | [] => 0
  | r :: l => (r.length : Int) + sumL l
def mk2 : List (List Int) → Int → List (List Int)
  | [], _ => []
  | r :: l, n => mk1 r.length n :: mk2 l (n + r.length)
theorem mk2_length : ∀ (l : List (List Int)) (n : Int), (mk2 l n).length = l.length
  | [], _ => rfl
  | _ :: l, n => by simp [mk2, mk2_length l]
theorem sumL_cons (r : List Int) (l : List (List Int)) : sumL (r :: l) = (r.length : Int) + sumL l := rfl
theorem mk2_cons (r : List Int) (l : List (List Int)) (n : Int) : mk2 (r :: l) n = mk1 r.length n :: mk2 l (n + r.length) := rfl
theorem sumL_pos : ∀ (l : List (List Int)), 0 ≤ sumL l
  | [] => Int.le_refl 0
  | r :: l => by have := sumL_pos l; unfold sumL; omega
theorem sumL_le (c : Nat) : ∀ (l : List (List Int)), (∀ x, x ∈ l → x.length ≤ c) → sumL l ≤ (l.length : Int) * (c : Int)
  | [], _ => by simp [sumL]
  | r :: l, h => by
    have h1 := sumL_le c l (fun x hx => h x (List.mem_cons_of_mem _ hx))
    have h2 := h r List.mem_cons_self
    unfold sumL
    rw [List.length_cons, show ((l.length + 1 : Nat) : Int) * (c : Int) = (l.length : Int) * (c : Int) + c by rw [Int.natCast_add, Int.add_mul]; simp]
    omega
theorem set_prefix (pre : List (List Int)) (x y : List Int) (suf : List (List Int)) : (pre ++ x :: suf).set pre.length y = pre ++ y :: suf := by
  simp
theorem getD_prefix (pre : List (List Int)) (x : List Int) (suf : List (List Int)) : (pre ++ x :: suf).getD pre.length [] = x := by
  simp [List.getD]
theorem mark2_l : ∀ (suf pre : List (List Int)) (n : Int), 0 ≤ n → n + sumL suf ≤ 4398046511104 → (pre ++ suf).length ≤ 1048576 → (∀ x, x ∈ suf → x.length ≤ 1048576) →
    Ev (fun k => laws_markIntSS.l0 k (pre ++ suf) n (pre.length : Int)) (n + sumL suf, pre ++ mk2 suf n)
  | [], pre, n, h0, h1, hl, hx => by
    refine Ev.step (fun k => by simp only [laws_markIntSS.l0]; rfl) (ev_neg (by simp) (ev_const ?_))
    simp [sumL, mk2]
  | r :: suf, pre, n, h0, h1, hl, hx => by
    have hr := hx r List.mem_cons_self
    have hp := sumL_pos suf
    rw [sumL_cons] at h1
    have hl2 : pre.length + suf.length + 1 ≤ 1048576 := by simp at hl; omega
    refine Ev.step (fun k => by simp only [laws_markIntSS.l0]; rfl) (ev_pos (by simp; omega) (ev_pos (by omega) ?_))
    rw [Int.toNat_natCast, getD_prefix, wsucc (n := 1048576) (by omega) (by omega)]
    refine Ev.bind (mark1 r n ⟨h0, by omega⟩ hr) ?_
    rw [set_prefix]
    have ih := mark2_l suf (pre ++ [mk1 r.length n]) (n + r.length) (by omega) (by omega) (by simp; omega) (fun x h => hx x (List.mem_cons_of_mem _ h))
    rw [List.length_append, List.length_singleton, List.append_assoc, List.append_assoc] at ih
    refine ev_eq ih ?_
    rw [mk2_cons, sumL_cons]
    simp; omega
theorem mark2 (l : List (List Int)) (n : Int) (h0 : 0 ≤ n) (h1 : n + sumL l ≤ 4398046511104) (hl : l.length ≤ 1048576) (hx : ∀ x, x ∈ l → x.length ≤ 1048576) : Ev (fun k => laws_markIntSS.f k l n) (n + sumL l, mk2 l n) := by
  unfold laws_markIntSS.f
  exact mark2_l l [] n h0 h1 hl hx
theorem sumL_big {l : List (List Int)} (hl : l.length ≤ 1048576) (hx : ∀ x, x ∈ l → x.length ≤ 1048576) : sumL l ≤ 1099511627776 := by
  have h := sumL_le 1048576 l hx
  have h2 : (l.length : Int) * ((1048576 : Nat) : Int) ≤ 1048576 * 1048576 := by
    have := Int.mul_le_mul_of_nonneg_right (show (l.length : Int) ≤ 1048576 by omega) (show (0 : Int) ≤ ((1048576 : Nat) : Int) by omega)
    simpa using this
  omega
end Go.Proofs.Ytgeefafkjokmeaa.UK
namespace Go.Proofs.Ytgeefafkjokmeaa.UK
open Go.RowKit Go.Proofs.YtgeefafkjokmeaaW.PrintWords Go.Proofs.YtgeefafkjokmeaaW.PrintMore Go.Proofs.Ytgeefafkjokmeaa.P Go.Proofs.Ytgeefafkjokmeaa.U Go.Proofs.Ytgeefafkjokmeaa.UT
set_option linter.unusedVariables false

theorem held1_l (n : Int) (hn : 0 ≤ n ∧ n ≤ 4398046511104) (m : Nat) (hm : m ≤ 1048576) : ∀ d i, i + d = m → Ev (fun k => laws_heldIntS.l0 k (mk1 m n) (n + i) (i : Int)) (n + m) := by
  intro d
  induction d with
  | zero =>
    intro i hi
    refine Ev.step (fun k => by simp only [laws_heldIntS.l0]; rfl) (ev_neg (by rw [mk1_length]; omega) (ev_const ?_))
    rw [show i = m by omega]
  | succ d ih =>
    intro i hi
    have hlt : i < (mk1 m n).length := by rw [mk1_length]; omega
    refine Ev.step (fun k => by simp only [laws_heldIntS.l0]; rfl) (ev_pos (by omega) (ev_pos (by omega) ?_))
    rw [wsucc (n := m) (by omega) (by omega), wr (x := n + (i : Int) + 1) (by omega) (by omega), rd_at _ i hlt, mk1_get]
    refine ev_pos rfl ?_
    rw [show n + (i : Int) + 1 = n + ((i + 1 : Nat) : Int) by omega]
    exact ih (i + 1) (by omega)
theorem held1 (m : Nat) (n : Int) (hn : 0 ≤ n ∧ n ≤ 4398046511104) (hm : m ≤ 1048576) : Ev (fun k => laws_heldIntS.f k (mk1 m n) n) (n + (m : Int)) := by
  unfold laws_heldIntS.f
  have h := held1_l n hn m hm m 0 (by omega)
  rw [show n + ((0 : Nat) : Int) = n by omega] at h
  exact h

end Go.Proofs.Ytgeefafkjokmeaa.UK
namespace Go.Proofs.Ytgeefafkjokmeaa.UK
open Go.RowKit Go.Proofs.YtgeefafkjokmeaaW.PrintWords Go.Proofs.YtgeefafkjokmeaaW.PrintMore Go.Proofs.Ytgeefafkjokmeaa.P Go.Proofs.Ytgeefafkjokmeaa.U Go.Proofs.Ytgeefafkjokmeaa.UT
set_option linter.unusedVariables false

theorem held2_l : ∀ (suf : List (List Int)) (pre : List (List Int)) (n : Int), 0 ≤ n → n + sumL suf ≤ 4398046511104 → pre.length + suf.length ≤ 1048576 → (∀ x, x ∈ suf → x.length ≤ 1048576) →
    Ev (fun k => laws_heldIntSS.l0 k (pre ++ mk2 suf n) n (pre.length : Int)) (n + sumL suf)
  | [], pre, n, h0, h1, hl, hx => by
    refine Ev.step (fun k => by simp only [laws_heldIntSS.l0]; rfl) (ev_neg (by simp [mk2]) (ev_const ?_))
    simp [sumL]
  | r :: suf, pre, n, h0, h1, hl, hx => by
    have hr := hx r List.mem_cons_self
    have hp := sumL_pos suf
    rw [sumL_cons] at h1
    rw [List.length_cons] at hl
    refine Ev.step (fun k => by simp only [laws_heldIntSS.l0]; rfl) ?_
    rw [mk2_cons]
    refine (ev_pos (by simp; omega) (ev_pos (by omega) ?_))
    have hg : rd_L1 (pre ++ mk1 r.length n :: mk2 suf (n + r.length)) (pre.length : Int) = mk1 r.length n := by
      rw [rd_l1 _ pre.length (by simp)]; simp
    rw [hg, wsucc (n := 1048576) (by omega) (by omega)]
    refine Ev.bind (held1 r.length n ⟨h0, by omega⟩ hr) (ev_neg (by omega) ?_)
    have ih := held2_l suf (pre ++ [mk1 r.length n]) (n + r.length) (by omega) (by omega) (by simp; omega) (fun x h => hx x (List.mem_cons_of_mem _ h))
    rw [List.length_append, List.length_singleton, List.append_assoc] at ih
    refine ev_eq ih ?_
    rw [sumL_cons]; omega
theorem held2 (l : List (List Int)) (n : Int) (h0 : 0 ≤ n) (h1 : n + sumL l ≤ 4398046511104) (hl : l.length ≤ 1048576) (hx : ∀ x, x ∈ l → x.length ≤ 1048576) : Ev (fun k => laws_heldIntSS.f k (mk2 l n) n) (n + sumL l) := by
  unfold laws_heldIntSS.f
  exact held2_l l [] n h0 h1 (by simp; omega) hx
end Go.Proofs.Ytgeefafkjokmeaa.UK
namespace Go.Proofs.Ytgeefafkjokmeaa.UB
open Go.RowKit Go.Proofs.YtgeefafkjokmeaaW.PrintWords Go.Proofs.YtgeefafkjokmeaaW.PrintMore Go.Proofs.Ytgeefafkjokmeaa.P Go.Proofs.Ytgeefafkjokmeaa.U Go.Proofs.Ytgeefafkjokmeaa.UT
set_option linter.unusedVariables false

theorem rdl_mem {l : List (List Int)} {s : Int} (h0 : 0 ≤ s) (h1 : s < (l.length : Int)) : rd_L1 l s ∈ l := by
  obtain ⟨n, rfl⟩ := Int.eq_ofNat_of_zero_le h0
  have h : n < l.length := by omega
  rw [show rd_L1 l (n : Int) = l[n] from rd_l1 l n h]
  exact List.getElem_mem h
/-! One number more on a stack. -/
def push (l : List (List Int)) (s n : Int) : List (List Int) := l.set s.toNat (rd_L1 l s ++ [n])
theorem push_len (l : List (List Int)) (s n : Int) : (push l s n).length = l.length := by simp [push]
theorem push_mem {l : List (List Int)} {s n : Int} {x : List Int} (h : x ∈ push l s n) : x ∈ l ∨ x = rd_L1 l s ++ [n] := List.mem_or_eq_of_mem_set h
theorem getD_out (l : List (List Int)) (j : Nat) (h : l.length ≤ j) : l.getD j [] = [] := by simp [List.getD, List.getElem?_eq_none h]
def fill (p : List Int) : Nat → Nat → List (List Int) → List (List Int)
  | 0, _, out => out
  | d + 1, i, out => fill p d (i + 1) (push out (p.getD i 0) ((i : Int) + 1))
theorem fill_len (p : List Int) : ∀ d i (out : List (List Int)), (fill p d i out).length = out.length
  | 0, _, _ => rfl
  | d + 1, i, out => by rw [fill, fill_len p d, push_len]
def rng (R : Int) (p : List Int) : Bool := p.all fun s => inr s 0 (R - 1)
def low (h : Int) (l : List (List Int)) : Bool := l.all fun r => decide ((r.length : Int) ≤ h)
/-- A row only grows. -/
theorem push_ge (l : List (List Int)) (s n : Int) (j : Nat) : (l.getD j []).length ≤ ((push l s n).getD j []).length := by
  unfold push
  by_cases hj : j < l.length
  · have hj2 : j < (l.set s.toNat (rd_L1 l s ++ [n])).length := by rw [List.length_set]; exact hj
    rw [getD_at _ _ _ hj, getD_at _ _ _ hj2, List.getElem_set]
    split
    · rename_i he
      have e : rd_L1 l s = l[j] := by
        unfold rd_L1
        rw [he]
        exact getD_at l j _ hj
      rw [e, List.length_append]; omega
    · exact Nat.le_refl _
  · rw [getD_out _ _ (by omega)]; simp
theorem fill_ge (p : List Int) (j : Nat) : ∀ d i (out : List (List Int)), (out.getD j []).length ≤ ((fill p d i out).getD j []).length
  | 0, _, _ => Nat.le_refl _
  | d + 1, i, out => by
    rw [fill]
    exact Nat.le_trans (push_ge out _ _ j) (fill_ge p j d (i + 1) _)
theorem low_at {h : Int} {l : List (List Int)} (hl : low h l = true) (j : Nat) (hj : j < l.length) : ((l.getD j []).length : Int) ≤ h := by
  rw [getD_at _ _ _ hj]
  exact of_decide_eq_true (List.all_eq_true.mp hl _ (List.getElem_mem hj))
/-- What the program's loop comes to. -/
theorem loop_impl (R h : Int) (ports p : List Int) (hR : R ≤ 5) (hh : h ≤ 4) (hp : p.length ≤ 7) : ∀ d i (out : List (List Int)), i + d = p.length → (out.length : Int) = R → low h out = true →
    Ev (fun k => impl_planBay.l0 k p (p.length : Int) (i : Int) R h ports h out) (if rng R (p.drop i) = true ∧ low h (fill p d i out) = true then (h, fill p d i out, true) else (0, [], false)) := by
  intro d
  induction d with
  | zero =>
    intro i out hi ho hl
    refine Ev.step (fun k => by simp only [impl_planBay.l0]; rfl) (ev_neg (by omega) (ev_const ?_))
    rw [List.drop_of_length_le (by omega), if_pos ⟨rfl, hl⟩]; rfl
  | succ d ih =>
    intro i out hi ho hl
    have hlt : i < p.length := by omega
    refine Ev.step (fun k => by simp only [impl_planBay.l0]; rfl) (ev_pos (by omega) (ev_pos (by omega) (ev_pos (by omega) ?_)))
    rw [rd_at p i hlt, wsucc hlt (by omega), wr (x := R - 1) (by omega) (by omega), List.drop_eq_getElem_cons hlt]
    refine ev_call (in_impl _ _ _) ?_
    unfold rng
    rw [List.all_cons]
    cases hk : inr p[i] 0 (R - 1)
    · rw [if_neg (by simp)]
      exact ev_neg (by simp) (ev_const rfl)
    · obtain ⟨h0, h1⟩ := inr_iff.mp hk
      have hlt2 : p[i].toNat < out.length := by omega
      have e : rd_L1 out p[i] = out.getD p[i].toNat [] := rfl
      have hb := low_at hl p[i].toNat hlt2
      unfold fill
      rw [getD_at p i 0 hlt, Bool.true_and]
      refine ev_pos rfl (ev_pos h0 (ev_pos (by omega) ?_))
      by_cases hc : ((rd_L1 out p[i]).length : Int) = h
      · refine ev_eq (ev_pos hc (ev_const rfl)) ?_
        rw [if_neg]
        rintro ⟨_, hf⟩
        have hlen : p[i].toNat < (fill p d (i + 1) (push out p[i] ((i : Int) + 1))).length := by rw [fill_len, push_len]; exact hlt2
        have h2 := low_at hf p[i].toNat hlen
        have h3 := fill_ge p p[i].toNat d (i + 1) (push out p[i] ((i : Int) + 1))
        have h4 : ((push out p[i] ((i : Int) + 1)).getD p[i].toNat []).length = (rd_L1 out p[i]).length + 1 := by
          unfold push
          rw [set_getD _ _ _ hlt2, List.length_append, List.length_singleton]
        omega
      · rw [e] at hc
        have hlow : low h (push out p[i] ((i : Int) + 1)) = true := by
          refine List.all_eq_true.mpr fun r hr => decide_eq_true ?_
          rcases push_mem hr with hr | rfl
          · exact of_decide_eq_true (List.all_eq_true.mp hl _ hr)
          · rw [List.length_append, List.length_singleton, e]; omega
        have hi2 := ih (i + 1) (push out p[i] ((i : Int) + 1)) (by omega) (by rw [push_len]; exact ho) hlow
        refine ev_neg (by rw [e]; exact hc) (ev_pos (by rw [e]; omega) ?_)
        have e2 : ((i + 1 : Nat) : Int) = (i : Int) + 1 := by omega
        rw [e2] at hi2 ⊢
        exact hi2
/-- The reference's bay. -/
theorem bay1 (h : Int) (n : Nat) (p : List Int) (hn : n ≤ 5) (hp : p.length ≤ 1048576) (hr : rng n p = true) : ∀ d i (out : List (List Int)), i + d = p.length → out.length = n → (∀ x, x ∈ out → x.length ≤ i) →
    Ev (fun k => spec_l10Bay.l1 k p (i : Int) h out) (h, fill p d i out) := by
  intro d
  induction d with
  | zero =>
    intro i out hi ho hx
    exact Ev.step (fun k => by simp only [spec_l10Bay.l1]; rfl) (ev_neg (by omega) (ev_const rfl))
  | succ d ih =>
    intro i out hi ho hx
    have hlt : i < p.length := by omega
    obtain ⟨h0, h1⟩ := inr_iff.mp (List.all_eq_true.mp hr p[i] (List.getElem_mem hlt))
    have hm := hx _ (rdl_mem (l := out) h0 (by omega))
    refine Ev.step (fun k => by simp only [spec_l10Bay.l1]; rfl) (ev_pos (by omega) (ev_pos (by omega) ?_))
    rw [rd_at p i hlt, wsucc hlt (by omega)]
    refine ev_pos h0 (ev_pos (by omega) (ev_pos (by omega) ?_))
    unfold fill
    rw [getD_at p i 0 hlt]
    have hi2 := ih (i + 1) (push out p[i] ((i : Int) + 1)) (by omega) (by rw [push_len]; exact ho) (fun x hx2 => by
      rcases push_mem hx2 with hx3 | rfl
      · have := hx x hx3; omega
      · rw [List.length_append, List.length_singleton]; omega)
    have e2 : ((i + 1 : Nat) : Int) = (i : Int) + 1 := by omega
    rw [e2] at hi2 ⊢
    exact hi2
theorem bay0 (h : Int) (ports : List Int) (n : Nat) (p : List Int) (hn : n ≤ 5) (hp : p.length ≤ 1048576) (hr : rng n p = true) : ∀ d j, j + d = n →
    Ev (fun k => spec_l10Bay.l0 k p (j : Int) (n : Int) h ports h (List.replicate j [])) (h, fill p p.length 0 (List.replicate n [])) := by
  intro d
  induction d with
  | zero =>
    intro j hj
    refine Ev.step (fun k => by simp only [spec_l10Bay.l0]; rfl) (ev_neg (by omega) ?_)
    rw [show j = n by omega]
    exact bay1 h n p hn hp hr p.length 0 _ (by omega) (by simp) (fun x hx => by rw [List.eq_of_mem_replicate hx]; simp)
  | succ d ih =>
    intro j hj
    refine Ev.step (fun k => by simp only [spec_l10Bay.l0]; rfl) (ev_pos (by omega) (ev_pos (by simp; omega) ?_))
    rw [wsucc (n := 6) (by omega) (by omega)]
    have hi2 := ih (j + 1) (by omega)
    rw [List.replicate_succ'] at hi2
    exact hi2
theorem bay_spec (h : Int) (ports : List Int) (n : Nat) (p : List Int) (hn : n ≤ 5) (hp : p.length ≤ 1048576) (hr : rng n p = true) : Ev (fun k => spec_l10Bay.f k (n : Int) h ports p) (h, fill p p.length 0 (List.replicate n [])) := by
  unfold spec_l10Bay.f
  exact bay0 h ports n p hn hp hr n 0 (by omega)

/-! The bay's numbers: each once. -/
theorem flat_set : ∀ (l : List (List Int)) (k : Nat) (h : k < l.length) (n : Int), ((l.set k (l[k] ++ [n])).flatten).Perm (n :: l.flatten)
  | x :: l, 0, h, n => by
    rw [List.set_cons_zero, List.flatten_cons, List.flatten_cons, List.getElem_cons_zero, List.append_assoc]
    exact List.perm_middle
  | x :: l, k + 1, h, n => by
    rw [List.set_cons_succ, List.flatten_cons, List.flatten_cons, List.getElem_cons_succ]
    exact ((flat_set l k (by simpa using h) n).append_left x).trans List.perm_middle
theorem fill_once (n : Nat) (p : List Int) (hr : rng n p = true) : ∀ d i (out : List (List Int)), i + d = p.length → out.length = n → out.flatten.Nodup → (∀ x, x ∈ out.flatten → 1 ≤ x ∧ x ≤ (i : Int)) →
    (fill p d i out).flatten.Nodup ∧ ∀ x, x ∈ (fill p d i out).flatten → 1 ≤ x ∧ x ≤ (p.length : Int)
  | 0, i, out, hi, ho, h1, h2 => ⟨h1, fun x hx => by have := h2 x hx; unfold fill at hx; omega⟩
  | d + 1, i, out, hi, ho, h1, h2 => by
    have hlt : i < p.length := by omega
    obtain ⟨g0, g1⟩ := inr_iff.mp (List.all_eq_true.mp hr p[i] (List.getElem_mem hlt))
    have hk : p[i].toNat < out.length := by omega
    have e : push out p[i] ((i : Int) + 1) = out.set p[i].toNat (out[p[i].toNat] ++ [(i : Int) + 1]) := by
      unfold push rd_L1
      rw [getD_at _ _ _ hk]
    have hp := flat_set out p[i].toNat hk ((i : Int) + 1)
    rw [← e] at hp
    rw [fill, getD_at p i 0 hlt]
    refine fill_once n p hr d (i + 1) _ (by omega) (by rw [push_len]; exact ho) ((hp.nodup_iff).mpr (List.nodup_cons.mpr ⟨fun hm => by have := h2 _ hm; omega, h1⟩)) (fun x hx => ?_)
    rcases List.mem_cons.mp (hp.mem_iff.mp hx) with rfl | hx
    · omega
    · have := h2 x hx; omega
theorem chkRow_full : ∀ (l s : List Int), (∀ x, x ∈ l → inr x 1 99 = true) → l.Nodup → (∀ x, x ∈ l → ¬ x ∈ s) → ∃ t, chkRow l s = some t ∧ ∀ x, x ∈ t ↔ x ∈ s ∨ x ∈ l
  | [], s, _, _, _ => ⟨s, rfl, fun x => by simp⟩
  | n :: l, s, h1, h2, h3 => by
    obtain ⟨g1, g2⟩ := List.nodup_cons.mp h2
    obtain ⟨t, ht, hm⟩ := chkRow_full l (n :: s) (fun x hx => h1 x (List.mem_cons_of_mem _ hx)) g2 (fun x hx hs => by
      rcases List.mem_cons.mp hs with rfl | hs
      · exact g1 hx
      · exact h3 x (List.mem_cons_of_mem _ hx) hs)
    refine ⟨t, ?_, fun x => by rw [hm, List.mem_cons, List.mem_cons]; grind⟩
    unfold chkRow
    have hc : s.contains n = false := by
      have := h3 n List.mem_cons_self
      simpa using this
    rw [h1 n List.mem_cons_self, hc]
    exact ht
theorem chkRows_full (h : Int) : ∀ (l : List (List Int)) (s : List Int), (∀ x, x ∈ l.flatten → inr x 1 99 = true) → l.flatten.Nodup → (∀ x, x ∈ l.flatten → ¬ x ∈ s) → (chkRows h l s).isSome = low h l
  | [], s, _, _, _ => rfl
  | r :: l, s, h1, h2, h3 => by
    rw [List.flatten_cons] at h1 h2 h3
    obtain ⟨n1, n2, n3⟩ := List.nodup_append.mp h2
    unfold chkRows low
    rw [List.all_cons]
    by_cases hc : (r.length : Int) ≤ h
    · rw [if_pos hc, decide_eq_true hc, Bool.true_and]
      obtain ⟨t, ht, hm⟩ := chkRow_full r s (fun x hx => h1 x (List.mem_append_left _ hx)) n1 (fun x hx => h3 x (List.mem_append_left _ hx))
      rw [ht]
      exact chkRows_full h l t (fun x hx => h1 x (List.mem_append_right _ hx)) n2 (fun x hx hs => by
        rcases (hm x).mp hs with hs | hs
        · exact h3 x (List.mem_append_right _ hx) hs
        · exact n3 x hs x hx rfl)
    · rw [if_neg hc, decide_eq_false hc]; rfl
theorem okBay_fill (h : Int) (hh : inr h 1 4 = true) (n : Nat) (hn : 1 ≤ n ∧ n ≤ 5) (p : List Int) (hp : p.length ≤ 7) (hr : rng n p = true) : okBay h (fill p p.length 0 (List.replicate n [])) = low h (fill p p.length 0 (List.replicate n [])) := by
  obtain ⟨g1, g2⟩ := fill_once n p hr p.length 0 (List.replicate n []) (by omega) (by simp) (by simp) (fun x hx => by simp at hx)
  unfold okBay
  rw [hh, fill_len, List.length_replicate, show inr (n : Int) 1 5 = true from inr_iff.mpr (by omega), Bool.true_and, Bool.true_and]
  exact chkRows_full h _ [] (fun x hx => inr_iff.mpr (by have := g2 x hx; omega)) g1 (fun x hx hs => by cases hs)
theorem plan_l (h : Int) (ports : List Int) (n : Nat) (p : List Int) (hn : n ≤ 5) (hp : p.length ≤ 1048576) : ∀ d i, i + d = p.length → rng n (p.take i) = true →
    ∀ r, (rng n p = false → r = false) → (rng n p = true → Ev (fun k => if (p.length : Int) = (ports.length : Int) then ((spec_l10Bay.f k (n : Int) h ports p).bind fun bt143 => ((spec_l9Good.f k bt143.1 bt143.2).bind fun t147 => (some t147))) else (some false)) r) →
    Ev (fun k => spec_l10Plan.l0 k p (i : Int) (n : Int) h ports) r := by
  intro d
  induction d with
  | zero =>
    intro i hi ht r hf hs
    refine Ev.step (fun k => by simp only [spec_l10Plan.l0]; rfl) (ev_neg (by omega) ?_)
    rw [List.take_of_length_le (by omega)] at ht
    exact hs ht
  | succ d ih =>
    intro i hi ht r hf hs
    have hlt : i < p.length := by omega
    refine Ev.step (fun k => by simp only [spec_l10Plan.l0]; rfl) (ev_pos (by omega) (ev_pos (by omega) ?_))
    rw [rd_at p i hlt, wsucc hlt (by omega), wr (x := (n : Int) - 1) (by omega) (by omega)]
    refine ev_call (in_spec _ _ _) ?_
    cases hk : inr p[i] 0 ((n : Int) - 1)
    · have hno : rng n p = false := by
        unfold rng
        rw [List.all_eq_false]
        exact ⟨p[i], List.getElem_mem hlt, by rw [hk]; simp⟩
      rw [hf hno]
      exact ev_neg (by simp) (ev_const rfl)
    · refine ev_pos rfl (ih (i + 1) (by omega) ?_ r hf hs)
      rw [List.take_succ_eq_append_getElem hlt]
      unfold rng at ht ⊢
      rw [List.all_append, ht]
      simp [hk]
/-- What both make of a plan: whether it is possible, and the bay. -/
def Parts (R h : Int) (l p : List Int) (ok : Bool) (b : List (List Int)) : Prop :=
  Ev (fun k => spec_l10Asked.f k R h l p) ok ∧ Ev (fun k => impl_planBay.f k R h l p) (if ok = true then (h, b, true) else (0, [], false)) ∧
  (ok = true → Ev (fun k => spec_l10Bay.f k R h l p) (h, b) ∧ b.flatten.Nodup ∧ (∀ x, x ∈ b.flatten → 1 ≤ x ∧ x ≤ (l.length : Int)) ∧ l.length ≤ 7 ∧ b.length ≤ 5 ∧ ∀ x, x ∈ b → x.length ≤ 4)
theorem plan_parts (R h : Int) (l : List Int) (hn : l.length ≤ 1048576) (p : List Int) (hp : p.length ≤ 1048576) : ∃ ok b, Parts R h l p ok b := by
  have hg := st_spec R h l (by omega)
  have no : Ev (fun k => impl_planBay.j0 k p true R h l) (0, [], false) := by
    refine Ev.step (fun k => by simp only [impl_planBay.j0]; rfl) ?_
    exact ev_pos trivial (ev_const rfl)
  have fail : Ev (fun k => (spec_l10Good.f k R h l).bind fun t149 => (if t149 = true then ((spec_l10Plan.f k R h l p).bind fun t150 => (some t150)) else (some false))) false → Ev (fun k => (impl_IsValidStowage.f R h l).bind fun t171 => (if t171 = true then (impl_planBay.j0 k p ((p.length : Int) != (l.length : Int)) R h l) else (impl_planBay.j0 k p true R h l))) (0, [], false) → ∃ ok b, Parts R h l p ok b := fun h1 h2 =>
    ⟨false, [], by unfold spec_l10Asked.f; exact h1, by unfold impl_planBay.f; exact h2, fun e => by cases e⟩
  cases hk : okSt R h l
  · rw [hk] at hg
    exact fail (Ev.bind hg (ev_neg (by simp) (ev_const rfl))) (ev_call (show impl_IsValidStowage.f R h l = some (okSt R h l) from rfl) (by rw [hk]; exact ev_neg (by simp) no))
  rw [hk] at hg
  have hk2 := hk
  unfold okSt at hk2
  simp only [Bool.and_eq_true, inr_iff] at hk2
  obtain ⟨⟨r1, r5⟩, ⟨b1, b4⟩, h7, _⟩ := hk2
  have h7 : (l.length : Int) ≤ 7 := of_decide_eq_true h7
  obtain ⟨n, rfl⟩ := Int.eq_ofNat_of_zero_le (show 0 ≤ R by omega)
  have hh : inr h 1 4 = true := inr_iff.mpr ⟨b1, b4⟩
  by_cases hc : p.length = l.length
  · have hp7 : p.length ≤ 7 := by omega
    have hneq : ((p.length : Int) != (l.length : Int)) = false := by rw [hc]; simp
    have hlow0 : low h (List.replicate n []) = true := by
      refine List.all_eq_true.mpr fun r hr => ?_
      rw [List.eq_of_mem_replicate hr]
      simp; omega
    have hi := loop_impl (n : Int) h l p (by omega) b4 hp7 p.length 0 (List.replicate n []) (by omega) (by simp) hlow0
    rw [List.drop_zero] at hi
    have himp : ∀ r, Ev (fun k => impl_planBay.l0 k p (p.length : Int) ((0 : Nat) : Int) (n : Int) h l h (List.replicate n [])) r → Ev (fun k => (impl_IsValidStowage.f (n : Int) h l).bind fun t171 => (if t171 = true then (impl_planBay.j0 k p ((p.length : Int) != (l.length : Int)) (n : Int) h l) else (impl_planBay.j0 k p true (n : Int) h l))) r := fun r hr => by
      refine ev_call (show impl_IsValidStowage.f (n : Int) h l = some (okSt n h l) from rfl) ?_
      rw [hk, hneq]
      refine ev_pos rfl (Ev.step (fun k => by simp only [impl_planBay.j0]; rfl) ?_)
      refine ev_neg (by simp) (ev_pos (by omega) (ev_pos (by omega) ?_))
      rw [Int.toNat_natCast]
      exact hr
    cases hr : rng n p
    · rw [if_neg (by rw [hr]; simp)] at hi
      refine fail (Ev.bind hg (ev_pos rfl (Ev.bind (a := false) ?_ (ev_const rfl)))) (himp _ hi)
      unfold spec_l10Plan.f
      exact plan_l h l n p (by omega) hp p.length 0 (by omega) (by simp [rng]) false (fun _ => rfl) (fun h2 => by rw [hr] at h2; cases h2)
    · have hb := bay_spec h l n p (by omega) hp hr
      have hsz : ∀ x, x ∈ fill p p.length 0 (List.replicate n []) → low h (fill p p.length 0 (List.replicate n [])) = true → x.length ≤ 4 := fun x hx hl => by
        have := of_decide_eq_true (List.all_eq_true.mp hl x hx); omega
      have hrow : ∀ d i (out : List (List Int)), (∀ x, x ∈ out → x.length ≤ i) → ∀ x, x ∈ fill p d i out → x.length ≤ i + d := by
        intro d
        induction d with
        | zero => intro i out ho x hx; have := ho x hx; omega
        | succ d ihd =>
          intro i out ho x hx
          rw [fill] at hx
          have := ihd (i + 1) _ (fun y hy => by
            rcases push_mem hy with hy | rfl
            · have := ho y hy; omega
            · rw [List.length_append, List.length_singleton]
              have : (rd_L1 out (p.getD i 0)).length ≤ i := by
                unfold rd_L1
                by_cases hq : (p.getD i 0).toNat < out.length
                · rw [getD_at _ _ _ hq]; exact ho _ (List.getElem_mem hq)
                · rw [getD_out _ _ (by omega)]; simp
              omega) x hx
          omega
      have hrows := hrow p.length 0 (List.replicate n []) (fun x hx => by rw [List.eq_of_mem_replicate hx]; simp)
      have hgood := good_spec h (fill p p.length 0 (List.replicate n [])) (by rw [fill_len, List.length_replicate]; omega) (fun x hx => by have := hrows x hx; omega)
      rw [okBay_fill h hh n (by omega) p hp7 hr] at hgood
      have hplan : Ev (fun k => spec_l10Plan.f k (n : Int) h l p) (low h (fill p p.length 0 (List.replicate n []))) := by
        unfold spec_l10Plan.f
        exact plan_l h l n p (by omega) hp p.length 0 (by omega) (by simp [rng]) _ (fun h2 => by rw [hr] at h2; cases h2) (fun _ => ev_pos (by omega) (Ev.bind hb (Ev.bind hgood (ev_const rfl))))
      cases hq : low h (fill p p.length 0 (List.replicate n []))
      · rw [hq] at hplan
        rw [if_neg (by rw [hq]; simp)] at hi
        exact fail (Ev.bind hg (ev_pos rfl (Ev.bind hplan (ev_const rfl)))) (himp _ hi)
      · rw [hq] at hplan
        rw [if_pos ⟨hr, hq⟩] at hi
        obtain ⟨f1, f2⟩ := fill_once n p hr p.length 0 (List.replicate n []) (by omega) (by simp) (by simp) (fun x hx => by simp at hx)
        exact ⟨true, fill p p.length 0 (List.replicate n []), by unfold spec_l10Asked.f; exact Ev.bind hg (ev_pos rfl (Ev.bind hplan (ev_const rfl))), by unfold impl_planBay.f; exact himp _ hi, fun _ => ⟨hb, f1, fun x hx => by have := f2 x hx; omega, by omega, by rw [fill_len, List.length_replicate]; omega, fun x hx => hsz x hx hq⟩⟩
  · have hneq : ((p.length : Int) != (l.length : Int)) = true := by rw [bne_iff_ne]; omega
    refine fail (Ev.bind hg (ev_pos rfl (Ev.bind (a := false) ?_ (ev_const rfl)))) (ev_call (show impl_IsValidStowage.f (n : Int) h l = some (okSt n h l) from rfl) ?_)
    · unfold spec_l10Plan.f
      exact plan_l h l n p (by omega) hp p.length 0 (by omega) (by simp [rng]) false (fun _ => rfl) (fun _ => ev_neg (by omega) (ev_const rfl))
    · rw [hk, hneq]
      exact ev_pos rfl no
end Go.Proofs.Ytgeefafkjokmeaa.UB
namespace Go.Proofs.Ytgeefafkjokmeaa.US
open Go.RowKit Go.Proofs.YtgeefafkjokmeaaW.PrintWords Go.Proofs.YtgeefafkjokmeaaW.PrintMore Go.Proofs.Ytgeefafkjokmeaa.P Go.Proofs.Ytgeefafkjokmeaa.U Go.Proofs.Ytgeefafkjokmeaa.UT
set_option linter.unusedVariables false

theorem lead_step (n : Int) : ∀ (l : List Int) (i : Nat) (hi : i < l.length), i ≤ lead n l → (l[i] < n → i + 1 ≤ lead n l) ∧ (¬ l[i] < n → lead n l = i)
  | x :: l, 0, hi, h => by
    unfold lead
    refine ⟨fun hx => ?_, fun hx => ?_⟩
    · rw [if_pos (show x < n from hx)]; omega
    · rw [if_neg (show ¬ x < n from hx)]
  | x :: l, i + 1, hi, h => by
    unfold lead at h ⊢
    by_cases hx : x < n
    · rw [if_pos hx] at h ⊢
      have := lead_step n l i (by simpa using hi) (by omega)
      exact ⟨fun h1 => by have := this.1 h1; omega, fun h1 => by have := this.2 h1; omega⟩
    · rw [if_neg hx] at h; omega
theorem put_l (l : List Int) (n : Int) (hl : l.length ≤ 1048576) : ∀ d i, i + d = l.length → i ≤ lead n l → Ev (fun k => spec_l1Put.l0 k l n (i : Int)) (put l n) := by
  have stop : ∀ (i : Nat), i ≤ l.length → lead n l = i → ¬ l[i]? = some n → put l n = l.take i ++ [n] ++ l.drop i := fun i _ h1 h2 => by rw [put_eq, h1, if_neg h2]
  intro d
  induction d with
  | zero =>
    intro i hi h
    have hle := lead_le n l
    refine Ev.step (fun k => by simp only [spec_l1Put.l0]; rfl) (ev_neg (by omega) (ev_const ?_))
    rw [stop i (by omega) (by omega) (by rw [List.getElem?_eq_none (by omega)]; simp)]
    simp only [Option.bind_some, List.nil_append, List.length_nil, List.length_append, List.length_take, List.length_drop, List.length_singleton, Int.toNat_natCast]
    rw [if_pos (by omega), if_pos (by omega), if_pos (by omega), if_pos (by omega), if_pos (by omega)]
  | succ d ih =>
    intro i hi h
    have hlt : i < l.length := by omega
    obtain ⟨s1, s2⟩ := lead_step n l i hlt h
    refine Ev.step (fun k => by simp only [spec_l1Put.l0]; rfl) (ev_pos (by omega) (ev_pos (by omega) ?_))
    rw [rd_at l i hlt, wsucc hlt (by omega)]
    by_cases hc : l[i] < n
    · exact ev_pos hc (ih (i + 1) (by omega) (s1 hc))
    · refine ev_neg hc ?_
      by_cases he : l[i] = n
      · refine ev_eq (ev_pos he (ev_const rfl)) ?_
        rw [put_eq, s2 hc, if_pos (by rw [List.getElem?_eq_getElem hlt, he])]
      · refine ev_neg he (ev_const ?_)
        rw [stop i (by omega) (s2 hc) (by rw [List.getElem?_eq_getElem hlt]; simpa using he)]
        simp only [Option.bind_some, List.nil_append, List.length_nil, List.length_append, List.length_take, List.length_drop, List.length_singleton, Int.toNat_natCast]
        rw [if_pos (by omega), if_pos (by omega), if_pos (by omega), if_pos (by omega)]
theorem put_ev (l : List Int) (n : Int) (hl : l.length ≤ 1048576) : Ev (fun k => spec_l1Put.f k l n) (put l n) := by
  unfold spec_l1Put.f
  exact put_l l n hl l.length 0 (by omega) (by omega)
end Go.Proofs.Ytgeefafkjokmeaa.US
namespace Go.Proofs.Ytgeefafkjokmeaa.UB
open Go.RowKit Go.Proofs.YtgeefafkjokmeaaW.PrintWords Go.Proofs.YtgeefafkjokmeaaW.PrintMore Go.Proofs.Ytgeefafkjokmeaa.P Go.Proofs.Ytgeefafkjokmeaa.U Go.Proofs.Ytgeefafkjokmeaa.UT Go.Proofs.Ytgeefafkjokmeaa.US
set_option linter.unusedVariables false

def prt (P : List Int) (n : Int) : Int := rd P (n - 1)
def rwA (P : List Int) (l : List (List Int)) : List (List Int) := l.map fun r => puts [] (r.map (prt P))
theorem rwA_len (P : List Int) (l : List (List Int)) : (rwA P l).length = l.length := by simp [rwA]
theorem sort_f (l : List Int) (h : l.length ≤ 1048576) : slices_Sort_int_int.f l = some (l.mergeSort fun x y => decide (x ≤ y)) := by
  unfold slices_Sort_int_int.f
  rw [if_pos (by omega)]
theorem comp_f (l : List Int) (h : l.length ≤ 1048576) : slices_Compact_int_int.f l = some (Go.Lib.compact l) := by
  unfold slices_Compact_int_int.f
  rw [if_pos (by omega)]
theorem row_impl {P : List Int} {l : List (List Int)} (hP : P.length ≤ 7) (R h : Int) (i : Nat) (hi : i < l.length) (hn : l.length ≤ 5) (h4 : l[i].length ≤ 4) (hx : ∀ x, x ∈ l[i] → 1 ≤ x ∧ x ≤ (P.length : Int)) (r : List (List Int) × Bool) : ∀ d j (out : List (List Int)) (o : List Int), j + d = l[i].length → o.length = j → out.length ≤ 5 →
    Ev (fun k => impl_RowPorts.l0 k (out ++ [puts [] (o ++ (l[i].drop j).map (prt P))]) l (l.length : Int) ((i + 1 : Nat) : Int) R h P) r → Ev (fun k => impl_RowPorts.l1 k out o l (l.length : Int) (i : Int) l[i] (l[i].length : Int) (j : Int) R h P) r := by
  intro d
  induction d with
  | zero =>
    intro j out o hj ho hq he
    refine Ev.step (fun k => by simp only [impl_RowPorts.l1]; rfl) (ev_neg (by omega) ?_)
    rw [wsucc hi (by omega)]
    rw [List.drop_of_length_le (by omega), List.map_nil, List.append_nil] at he
    refine ev_call (sort_f o (by omega)) (ev_call (comp_f _ (by rw [List.length_mergeSort]; omega)) ?_)
    rw [compact_sort]
    exact ev_pos (by omega) he
  | succ d ih =>
    intro j out o hj ho hq he
    have hjt : j < l[i].length := by omega
    have b1 := hx l[i][j] (List.getElem_mem hjt)
    refine Ev.step (fun k => by simp only [impl_RowPorts.l1]; rfl) ?_
    rw [rd_at _ j hjt, wr (x := l[i][j] - 1) (by omega) (by omega), wsucc hjt (by omega)]
    rw [List.drop_eq_getElem_cons hjt, List.map_cons] at he
    refine ev_pos (by omega) ?_
    refine ev_pos (by omega) ?_
    refine ev_pos (by omega) ?_
    refine ev_pos (by omega) ?_
    refine ev_pos (by omega) ?_
    refine ev_pos (by omega) ?_
    refine ih (j + 1) out _ (by omega) (by rw [List.length_append, List.length_singleton]; omega) hq ?_
    rw [List.append_assoc]
    exact he
theorem rows_impl {P : List Int} {l : List (List Int)} (hP : P.length ≤ 7) (R h : Int) (hn : l.length ≤ 5) (h4 : ∀ x, x ∈ l → x.length ≤ 4) (hx : ∀ x, x ∈ l.flatten → 1 ≤ x ∧ x ≤ (P.length : Int)) : ∀ d i (out : List (List Int)), i + d = l.length → out.length = i →
    Ev (fun k => impl_RowPorts.l0 k out l (l.length : Int) (i : Int) R h P) (out ++ rwA P (l.drop i), true) := by
  intro d
  induction d with
  | zero =>
    intro i out hi ho
    refine Ev.step (fun k => by simp only [impl_RowPorts.l0]; rfl) (ev_neg (by omega) (ev_const ?_))
    rw [List.drop_of_length_le (by omega), show rwA P [] = [] from rfl, List.append_nil]
  | succ d ih =>
    intro i out hi ho
    have hlt : i < l.length := by omega
    have h4i := h4 _ (List.getElem_mem hlt)
    refine Ev.step (fun k => by simp only [impl_RowPorts.l0]; rfl) (ev_pos (by omega) (ev_pos (by omega) (ev_pos (by omega) ?_)))
    rw [rd_l1 l i hlt]
    refine row_impl hP R h i hlt hn h4i (fun x hx2 => hx x (List.mem_flatten.mpr ⟨_, List.getElem_mem hlt, hx2⟩)) _ l[i].length 0 out [] (by omega) rfl (by omega) ?_
    rw [List.drop_zero, List.nil_append]
    have hh := ih (i + 1) (out ++ [puts [] (l[i].map (prt P))]) (by omega) (by rw [List.length_append, List.length_singleton]; omega)
    have e : out ++ rwA P (l.drop i) = out ++ [puts [] (l[i].map (prt P))] ++ rwA P (l.drop (i + 1)) := by
      rw [List.drop_eq_getElem_cons hlt, List.append_assoc]; rfl
    rw [e]
    exact hh
theorem row_spec {P : List Int} {l : List (List Int)} (hP : P.length ≤ 7) (R h c : Int) (i : Nat) (hi : i < l.length) (hn : l.length ≤ 5) (h4 : l[i].length ≤ 4) (hx : ∀ x, x ∈ l[i] → 1 ≤ x ∧ x ≤ (P.length : Int)) (r : List (List Int) × Bool) : ∀ d j (out : List (List Int)) (o : List Int), j + d = l[i].length → o.length ≤ j → out.length ≤ 5 →
    Ev (fun k => spec_RowPorts.l0 k (out ++ [puts o ((l[i].drop j).map (prt P))]) ((i + 1 : Nat) : Int) R h P c l) r → Ev (fun k => spec_RowPorts.l1 k out (i : Int) o (j : Int) R h P c l) r := by
  intro d
  induction d with
  | zero =>
    intro j out o hj ho hq he
    refine Ev.step (fun k => by simp only [spec_RowPorts.l1]; rfl) ?_
    rw [rd_l1 l i hi, wsucc hi (by omega)]
    rw [List.drop_of_length_le (by omega), List.map_nil] at he
    refine ev_pos (by omega) (ev_pos (by omega) (ev_neg (by omega) ?_))
    exact ev_pos (by omega) he
  | succ d ih =>
    intro j out o hj ho hq he
    have hjt : j < l[i].length := by omega
    have b1 := hx l[i][j] (List.getElem_mem hjt)
    refine Ev.step (fun k => by simp only [spec_RowPorts.l1]; rfl) ?_
    rw [rd_l1 l i hi, rd_at _ j hjt, wr (x := l[i][j] - 1) (by omega) (by omega), wsucc hjt (by omega)]
    rw [List.drop_eq_getElem_cons hjt, List.map_cons, puts] at he
    refine ev_pos (by omega) ?_
    refine ev_pos (by omega) ?_
    refine ev_pos (by omega) ?_
    refine ev_pos (by omega) ?_
    refine ev_pos (by omega) ?_
    refine ev_pos (by omega) ?_
    have p1 := put_len (rd P (l[i][j] - 1)) o
    exact Ev.bind (put_ev o (rd P (l[i][j] - 1)) (by omega)) (ih (j + 1) out _ (by omega) (by omega) hq he)
theorem rows_spec {P : List Int} {l : List (List Int)} (hP : P.length ≤ 7) (R h c : Int) (hn : l.length ≤ 5) (h4 : ∀ x, x ∈ l → x.length ≤ 4) (hx : ∀ x, x ∈ l.flatten → 1 ≤ x ∧ x ≤ (P.length : Int)) : ∀ d i (out : List (List Int)), i + d = l.length → out.length = i →
    Ev (fun k => spec_RowPorts.l0 k out (i : Int) R h P c l) (out ++ rwA P (l.drop i), true) := by
  intro d
  induction d with
  | zero =>
    intro i out hi ho
    refine Ev.step (fun k => by simp only [spec_RowPorts.l0]; rfl) (ev_neg (by omega) (ev_const ?_))
    rw [List.drop_of_length_le (by omega), show rwA P [] = [] from rfl, List.append_nil]
  | succ d ih =>
    intro i out hi ho
    have hlt : i < l.length := by omega
    have h4i := h4 _ (List.getElem_mem hlt)
    refine Ev.step (fun k => by simp only [spec_RowPorts.l0]; rfl) (ev_pos (by omega) ?_)
    refine row_spec hP R h c i hlt hn h4i (fun x hx2 => hx x (List.mem_flatten.mpr ⟨_, List.getElem_mem hlt, hx2⟩)) _ l[i].length 0 out [] (by omega) (Nat.le_refl _) (by omega) ?_
    rw [List.drop_zero]
    have hh := ih (i + 1) (out ++ [puts [] (l[i].map (prt P))]) (by omega) (by rw [List.length_append, List.length_singleton]; omega)
    have e : out ++ rwA P (l.drop i) = out ++ [puts [] (l[i].map (prt P))] ++ rwA P (l.drop (i + 1)) := by
      rw [List.drop_eq_getElem_cons hlt, List.append_assoc]; rfl
    rw [e]
    exact hh
theorem rows_same (R h : Int) (l : List Int) (hn : l.length ≤ 1048576) (p : List Int) (hp : p.length ≤ 1048576) :
    ∃ (r : List (List Int)) (b : Bool), Ev (fun k => spec_RowPorts.f k R h l p) (r, b) ∧ Ev (fun k => impl_RowPorts.f k R h l p) (r, b) ∧ r.length ≤ 1048576 ∧ ∀ x, x ∈ r → x.length ≤ 1048576 := by
  obtain ⟨ok, b, h1, h2, h3⟩ := plan_parts R h l hn p hp
  unfold spec_RowPorts.f impl_RowPorts.f
  cases ok
  · rw [if_neg (by simp)] at h2
    exact ⟨[], false, Ev.bind (ev_const rfl) (Ev.bind h1 (ev_neg (by simp) (ev_const rfl))), Ev.bind h2 (ev_neg (by simp) (ev_const rfl)), by simp, fun x hx => by cases hx⟩
  · rw [if_pos rfl] at h2
    obtain ⟨g1, g2, g3, g4, g5, g6⟩ := h3 rfl
    have e1 := rows_spec g4 R h h g5 g6 g3 b.length 0 [] (by omega) rfl
    have e2 := rows_impl g4 R h g5 g6 g3 b.length 0 [] (by omega) rfl
    rw [List.drop_zero, List.nil_append] at e1 e2
    refine ⟨rwA l b, true, Ev.bind (ev_const rfl) (Ev.bind h1 (ev_pos rfl (Ev.bind g1 e1))), Ev.bind h2 (ev_pos rfl e2), by rw [rwA_len]; omega, fun x hx => ?_⟩
    obtain ⟨y, hy, rfl⟩ := List.mem_map.mp hx
    have h4 := g6 y hy
    have hl := puts_len (y.map (prt l)) []
    rw [List.length_nil, List.length_map] at hl
    omega
end Go.Proofs.Ytgeefafkjokmeaa.UB
