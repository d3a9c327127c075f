/- UTabL, USt, UMark0, UMarkH, USort, UPlanG, UPut, UShift, UBest, as one text. -/
import Derived.Test.YtbcklegbkdjlpaaPx0
import Derived.Test.YtbcklegbkdjlpaaPx1
import Derived.Test.YtbcklegbkdjlpaaPx10
import Derived.Test.YtbcklegbkdjlpaaPx11
import Derived.Test.YtbcklegbkdjlpaaPx2
import Derived.Test.YtbcklegbkdjlpaaPx20
import Derived.Test.YtbcklegbkdjlpaaPx21
import Derived.Test.YtbcklegbkdjlpaaPx22
import Derived.Test.YtbcklegbkdjlpaaPx3
import Derived.Test.YtbcklegbkdjlpaaPx4
import Derived.Test.YtbcklegbkdjlpaaPx5
import Derived.Test.YtbcklegbkdjlpaaPx8
import Derived.Test.YtbcklegbkdjlpaaU
namespace Go.Proofs.Ytbcklegbkdjlpaa.UT
open Go.RowKit Go.Proofs.YtbcklegbkdjlpaaW.PrintWords Go.Proofs.YtbcklegbkdjlpaaW.PrintMore Go.Proofs.Ytbcklegbkdjlpaa.P Go.Proofs.Ytbcklegbkdjlpaa.U
set_option linter.unusedVariables false

theorem rd_l1 (l : List (List Int)) (i : Nat) (h : i < l.length) : rd_L1 l (i : Int) = l[i] := by
  unfold rd_L1
  rw [Int.toNat_natCast]
  exact getD_at l i _ h

theorem sz1 (l : List Int) (n : Int) (hn : 0 ≤ n ∧ n ≤ 1048576) (hl : l.length ≤ 9223372036854775807) : laws_szIntS.f l n = some (if n - (l.length : Int) < 0 then -1 else n - (l.length : Int)) := by
  unfold laws_szIntS.f
  rw [wr (by omega) (by omega)]
  split <;> rfl
theorem to1_l (l : List Int) (hn : l.length ≤ 1048576) : ∀ d i (acc : List Int), i + d = l.length → acc.length = l.length → acc.take i = l.take i → Ev (fun k => laws_toIntS.l0 k l acc (i : Int)) l := by
  intro d
  induction d with
  | zero =>
    intro i acc hi ha ht
    refine Ev.step (fun k => by simp only [laws_toIntS.l0]; rfl) (ev_neg (by omega) (ev_const ?_))
    rw [List.take_of_length_le (by omega), List.take_of_length_le (by omega)] at ht
    rw [ht]
  | succ d ih =>
    intro i acc hi ha ht
    have hlt : i < l.length := by omega
    refine Ev.step (fun k => by simp only [laws_toIntS.l0]; rfl) ?_
    refine ev_pos (by omega) (ev_pos (by omega) (ev_pos (by omega) ?_))
    rw [wsucc hlt (by omega), Int.toNat_natCast, rd_at l i hlt]
    refine ih (i + 1) _ (by omega) (by rw [List.length_set]; exact ha) ?_
    rw [fill_step ht (by omega), List.take_succ_eq_append_getElem hlt]
theorem to1 (l : List Int) (hn : l.length ≤ 1048576) : Ev (fun k => laws_toIntS.f k l) l := by
  unfold laws_toIntS.f
  refine ev_pos (by omega) (ev_pos (by omega) ?_)
  exact to1_l l hn l.length 0 _ (by omega) (by simp) (by simp)
theorem eq1_l (l : List Int) (hn : l.length ≤ 9223372036854775807) : ∀ d i, i + d = l.length → Ev (fun k => laws_eqIntS.l0 k l l (i : Int)) true := by
  intro d
  induction d with
  | zero => intro i hi; exact Ev.step (fun k => by simp only [laws_eqIntS.l0]; rfl) (ev_neg (by omega) (ev_const rfl))
  | succ d ih =>
    intro i hi
    refine Ev.step (fun k => by simp only [laws_eqIntS.l0]; rfl) ?_
    refine ev_pos (by omega) (ev_pos (by omega) (ev_pos (by omega) (ev_pos (by simp) ?_)))
    rw [wsucc (show i < l.length by omega) (by omega)]
    exact ih (i + 1) (by omega)
theorem eq1 (l : List Int) (hn : l.length ≤ 9223372036854775807) : Ev (fun k => laws_eqIntS.f k l l) true := by
  unfold laws_eqIntS.f
  exact ev_pos rfl (eq1_l l hn l.length 0 (by omega))
theorem in_spec (a b c : Int) : spec_l1In.f a b c = some (inr a b c) := by
  unfold spec_l1In.f inr
  by_cases h : b ≤ a <;> simp [h]
end Go.Proofs.Ytbcklegbkdjlpaa.UT
namespace Go.Proofs.Ytbcklegbkdjlpaa.UB
open Go.RowKit Go.Proofs.YtbcklegbkdjlpaaW.PrintWords Go.Proofs.YtbcklegbkdjlpaaW.PrintMore Go.Proofs.Ytbcklegbkdjlpaa.P Go.Proofs.Ytbcklegbkdjlpaa.U Go.Proofs.Ytbcklegbkdjlpaa.UT
set_option linter.unusedVariables false

theorem in_impl (a b c : Int) : impl_within.f a b c = some (inr a b c) := by
  unfold impl_within.f inr
  by_cases h : b ≤ a <;> simp [h]
theorem all_not_any (p : Int → Bool) : ∀ l : List Int, l.all p = !(l.any fun x => !p x)
  | [] => rfl
  | x :: l => by rw [List.all_cons, List.any_cons, all_not_any p l]; cases p x <;> simp
/-! Stowages. -/
theorem ports_l (a b : Int) (l : List Int) (hn : l.length ≤ 9223372036854775807) : ∀ d i, i + d = l.length → Ev (fun k => spec_l10Good.l0 k (i : Int) a b l) ((l.drop i).all (fun x => inr x 1 9)) := by
  intro d
  induction d with
  | zero =>
    intro i hi
    refine Ev.step (fun k => by simp only [spec_l10Good.l0]; rfl) ?_
    refine ev_neg (by omega) (ev_const ?_)
    rw [List.drop_of_length_le (by omega)]; simp
  | succ d ih =>
    intro i hi
    have hlt : i < l.length := by omega
    refine Ev.step (fun k => by simp only [spec_l10Good.l0]; rfl) ?_
    rw [rd_at l i hlt, wsucc hlt hn, List.drop_eq_getElem_cons hlt, List.all_cons]
    refine ev_pos (by omega) (ev_pos (by omega) (ev_call (in_spec _ _ _) ?_))
    cases h : inr l[i] 1 9
    · exact ev_neg (by simp) (ev_const (by simp))
    · exact ev_eq (ev_pos rfl (ih (i + 1) (by omega))) (by simp)
theorem st_spec (a b : Int) (l : List Int) (hn : l.length ≤ 9223372036854775807) : Ev (fun k => spec_l10Good.f k a b l) (okSt a b l) := by
  unfold spec_l10Good.f okSt
  have fs : Ev (fun k => spec_l10Good.j0 k true a b l) false := by
    refine Ev.step (fun k => by simp only [spec_l10Good.j0]; rfl) ?_
    exact ev_pos (by simp) (ev_const rfl)
  refine ev_call (in_spec _ _ _) ?_
  cases h1 : inr a 1 5
  · exact ev_neg (by simp) fs
  refine ev_pos rfl (ev_call (in_spec _ _ _) ?_)
  cases h2 : inr b 1 4
  · exact ev_neg (by simp) fs
  refine ev_pos rfl ?_
  have hp := impl_IsValidStowage.prod h1 h2
  rw [hp]
  by_cases h3 : (l.length : Int) ≤ 7
  · refine ev_neg (by omega) ?_
    rw [decide_eq_true h3]
    by_cases h4 : (l.length : Int) ≤ a * b
    · rw [decide_eq_true h4]
      refine Ev.step (fun k => by simp only [spec_l10Good.j0]; rfl) ?_
      refine ev_neg (by simp; omega) ?_
      exact ev_eq (ports_l a b l hn l.length 0 (by omega)) (by rw [List.drop_zero, all_not_any]; simp)
    · rw [decide_eq_false h4]
      refine Ev.step (fun k => by simp only [spec_l10Good.j0]; rfl) ?_
      exact ev_pos (by simp; omega) (ev_const (by simp))
  · rw [decide_eq_false h3]
    exact ev_eq (ev_pos (by omega) fs) (by simp)
end Go.Proofs.Ytbcklegbkdjlpaa.UB
namespace Go.Proofs.Ytbcklegbkdjlpaa.UK
open Go.RowKit Go.Proofs.YtbcklegbkdjlpaaW.PrintWords Go.Proofs.YtbcklegbkdjlpaaW.PrintMore Go.Proofs.Ytbcklegbkdjlpaa.P Go.Proofs.Ytbcklegbkdjlpaa.U Go.Proofs.Ytbcklegbkdjlpaa.UT
set_option linter.unusedVariables false

/-! What holds from some number of rounds on. -/
def EvP (P : Nat → Prop) : Prop := ∃ K, ∀ k, K ≤ k → P k
theorem EvP.rounds {P : Nat → Prop} (h : EvP P) : ∃ k, P k := by
  obtain ⟨K, h⟩ := h
  exact ⟨K, h K (Nat.le_refl _)⟩
theorem EvP.tr : EvP fun _ => True := ⟨0, fun _ _ => trivial⟩
theorem EvP.bind {α : Type} {g : Nat → Option α} {r : α} {Q : Nat → α → Prop} (h : Ev g r) (hq : EvP fun k => Q k r) : EvP fun k => ∃ t, g k = some t ∧ Q k t := by
  obtain ⟨K, h⟩ := h
  obtain ⟨K', h'⟩ := hq
  exact ⟨max K K', fun k hk => ⟨r, h k (by omega), h' k (by omega)⟩⟩
theorem EvP.bind2 {α β : Type} {g : Nat → Option (α × β)} {r : α} {s : β} {Q : Nat → α → β → Prop} (h : Ev g (r, s)) (hq : EvP fun k => Q k r s) : EvP fun k => ∃ t u, g k = some (t, u) ∧ Q k t u := by
  obtain ⟨K, h⟩ := h
  obtain ⟨K', h'⟩ := hq
  exact ⟨max K K', fun k hk => ⟨r, s, h k (by omega), h' k (by omega)⟩⟩
theorem EvP.bind3 {α β γ : Type} {g : Nat → Option (α × β × γ)} {r : α} {s : β} {v : γ} {Q : Nat → α → β → γ → Prop} (h : Ev g (r, s, v)) (hq : EvP fun k => Q k r s v) : EvP fun k => ∃ t u x, g k = some (t, u, x) ∧ Q k t u x := by
  obtain ⟨K, h⟩ := h
  obtain ⟨K', h'⟩ := hq
  exact ⟨max K K', fun k hk => ⟨r, s, v, h k (by omega), h' k (by omega)⟩⟩
theorem EvP.bind4 {α β γ δ : Type} {g : Nat → Option (α × β × γ × δ)} {r : α} {s : β} {v : γ} {z : δ} {Q : Nat → α → β → γ → δ → Prop} (h : Ev g (r, s, v, z)) (hq : EvP fun k => Q k r s v z) : EvP fun k => ∃ t u x y, g k = some (t, u, x, y) ∧ Q k t u x y := by
  obtain ⟨K, h⟩ := h
  obtain ⟨K', h'⟩ := hq
  exact ⟨max K K', fun k hk => ⟨r, s, v, z, h k (by omega), h' k (by omega)⟩⟩
theorem EvP.out {c : Prop} {Q : Nat → Prop} (h : c) : EvP fun k => c ∨ Q k := ⟨0, fun _ _ => Or.inl h⟩
theorem EvP.on {c : Prop} {Q : Nat → Prop} (h : ¬ c) (hq : EvP Q) : EvP fun k => c ∨ ¬ c ∧ Q k := by
  obtain ⟨K, hq⟩ := hq
  exact ⟨K, fun k hk => Or.inr ⟨h, hq k hk⟩⟩
theorem EvP.no {c : Prop} {Q : Nat → Prop} (h : ¬ c) (hq : EvP Q) : EvP fun k => ¬ c ∧ Q k := by
  obtain ⟨K, hq⟩ := hq
  exact ⟨K, fun k hk => ⟨h, hq k hk⟩⟩
theorem EvP.yes {c : Prop} {Q : Nat → Prop} (h : c) (hq : EvP Q) : EvP fun k => c ∧ Q k := by
  obtain ⟨K, hq⟩ := hq
  exact ⟨K, fun k hk => ⟨h, hq k hk⟩⟩

/-! Lists of numbers. -/
def mk1 (m : Nat) (n : Int) : List Int := (List.range m).map fun j : Nat => n + (j : Int)
theorem mk1_length (m : Nat) (n : Int) : (mk1 m n).length = m := by simp [mk1]
theorem mk1_get (m : Nat) (n : Int) (i : Nat) (h : i < (mk1 m n).length) : (mk1 m n)[i] = n + i := by simp [mk1]
theorem mark1_l (n : Int) (hn : 0 ≤ n ∧ n ≤ 4398046511104) (m : Nat) (hm : m ≤ 1048576) : ∀ d i (acc : List Int), i + d = m → acc.length = m → acc.take i = (mk1 m n).take i → Ev (fun k => laws_markIntS.l0 k acc (n + i) (i : Int)) (n + m, mk1 m n) := by
  intro d
  induction d with
  | zero =>
    intro i acc hi ha ht
    refine Ev.step (fun k => by simp only [laws_markIntS.l0]; rfl) (ev_neg (by omega) (ev_const ?_))
    rw [List.take_of_length_le (by omega), List.take_of_length_le (by rw [mk1_length]; omega)] at ht
    rw [ht, show i = m by omega]
  | succ d ih =>
    intro i acc hi ha ht
    have hlt : i < acc.length := by omega
    refine Ev.step (fun k => by simp only [laws_markIntS.l0]; rfl) ?_
    refine ev_pos (by omega) (ev_pos (by omega) ?_)
    rw [wsucc (n := m) (by omega) (by omega), Int.toNat_natCast, wr (x := n + (i : Int) + 1) (by omega) (by omega)]
    rw [show n + (i : Int) + 1 = n + ((i + 1 : Nat) : Int) by omega]
    refine ih (i + 1) _ (by omega) (by rw [List.length_set]; exact ha) ?_
    rw [fill_step ht hlt, List.take_succ_eq_append_getElem (show i < (mk1 m n).length by rw [mk1_length]; omega), mk1_get]
theorem mark1 (l : List Int) (n : Int) (hn : 0 ≤ n ∧ n ≤ 4398046511104) (hm : l.length ≤ 1048576) : Ev (fun k => laws_markIntS.f k l n) (n + (l.length : Int), mk1 l.length n) := by
  unfold laws_markIntS.f
  have h := mark1_l n hn l.length hm l.length 0 l (by omega) rfl (by simp)
  rw [show n + ((0 : Nat) : Int) = n by omega] at h
  exact h
end Go.Proofs.Ytbcklegbkdjlpaa.UK
namespace Go.Proofs.Ytbcklegbkdjlpaa.UK
open Go.RowKit Go.Proofs.YtbcklegbkdjlpaaW.PrintWords Go.Proofs.YtbcklegbkdjlpaaW.PrintMore Go.Proofs.Ytbcklegbkdjlpaa.P Go.Proofs.Ytbcklegbkdjlpaa.U Go.Proofs.Ytbcklegbkdjlpaa.UT
set_option linter.unusedVariables false

theorem held1_l (n : Int) (hn : 0 ≤ n ∧ n ≤ 4398046511104) (m : Nat) (hm : m ≤ 1048576) : ∀ d i, i + d = m → Ev (fun k => laws_heldIntS.l0 k (mk1 m n) (n + i) (i : Int)) (n + m) := by
  intro d
  induction d with
  | zero =>
    intro i hi
    refine Ev.step (fun k => by simp only [laws_heldIntS.l0]; rfl) (ev_neg (by rw [mk1_length]; omega) (ev_const ?_))
    rw [show i = m by omega]
  | succ d ih =>
    intro i hi
    have hlt : i < (mk1 m n).length := by rw [mk1_length]; omega
    refine Ev.step (fun k => by simp only [laws_heldIntS.l0]; rfl) (ev_pos (by omega) (ev_pos (by omega) ?_))
    rw [wsucc (n := m) (by omega) (by omega), wr (x := n + (i : Int) + 1) (by omega) (by omega), rd_at _ i hlt, mk1_get]
    refine ev_pos rfl ?_
    rw [show n + (i : Int) + 1 = n + ((i + 1 : Nat) : Int) by omega]
    exact ih (i + 1) (by omega)
theorem held1 (m : Nat) (n : Int) (hn : 0 ≤ n ∧ n ≤ 4398046511104) (hm : m ≤ 1048576) : Ev (fun k => laws_heldIntS.f k (mk1 m n) n) (n + (m : Int)) := by
  unfold laws_heldIntS.f
  have h := held1_l n hn m hm m 0 (by omega)
  rw [show n + ((0 : Nat) : Int) = n by omega] at h
  exact h

end Go.Proofs.Ytbcklegbkdjlpaa.UK
namespace Go.Proofs.Ytbcklegbkdjlpaa.US
set_option linter.unusedVariables false
/-- A number put into a rising list, once. -/
def put : List Int → Int → List Int
  | [], n => [n]
  | x :: l, n => if x < n then x :: put l n else if x = n then x :: l else n :: x :: l
theorem put_mem (n y : Int) : ∀ (l : List Int), y ∈ put l n ↔ y = n ∨ y ∈ l
  | [] => by simp [put]
  | x :: l => by
    unfold put
    split
    · rw [List.mem_cons, put_mem n y l, List.mem_cons]; grind
    · split
      · rename_i h; subst h; simp
      · simp
theorem put_rising (n : Int) : ∀ (l : List Int), l.Pairwise (· < ·) → (put l n).Pairwise (· < ·)
  | [], _ => by simp [put]
  | x :: l, h => by
    obtain ⟨h1, h2⟩ := List.pairwise_cons.mp h
    unfold put
    split
    · rename_i hx
      refine List.pairwise_cons.mpr ⟨fun y hy => ?_, put_rising n l h2⟩
      rcases (put_mem n y l).mp hy with rfl | hy
      · exact hx
      · exact h1 y hy
    · split
      · exact h
      · rename_i hx hn
        refine List.pairwise_cons.mpr ⟨fun y hy => ?_, h⟩
        rcases List.mem_cons.mp hy with rfl | hy
        · omega
        · have := h1 y hy; omega
theorem put_len (n : Int) : ∀ (l : List Int), (put l n).length ≤ l.length + 1
  | [] => by simp [put]
  | x :: l => by
    unfold put
    split
    · rw [List.length_cons, List.length_cons]; have := put_len n l; omega
    · split <;> simp
theorem eq_of_mem : ∀ (a b : List Int), a.Pairwise (· < ·) → b.Pairwise (· < ·) → (∀ x, x ∈ a ↔ x ∈ b) → a = b
  | [], [], _, _, _ => rfl
  | [], y :: b, _, _, h => by have := (h y).mpr List.mem_cons_self; cases this
  | x :: a, [], _, _, h => by have := (h x).mp List.mem_cons_self; cases this
  | x :: a, y :: b, ha, hb, h => by
    obtain ⟨a1, a2⟩ := List.pairwise_cons.mp ha
    obtain ⟨b1, b2⟩ := List.pairwise_cons.mp hb
    have hxy : x = y := by
      rcases List.mem_cons.mp ((h x).mp List.mem_cons_self) with e | hx
      · exact e
      · rcases List.mem_cons.mp ((h y).mpr List.mem_cons_self) with e | hy
        · exact e.symm
        · have := b1 x hx; have := a1 y hy; omega
    subst hxy
    rw [eq_of_mem a b a2 b2 (fun z => ?_)]
    constructor
    · intro hz
      rcases List.mem_cons.mp ((h z).mp (List.mem_cons_of_mem _ hz)) with rfl | hz2
      · have := a1 z hz; omega
      · exact hz2
    · intro hz
      rcases List.mem_cons.mp ((h z).mpr (List.mem_cons_of_mem _ hz)) with rfl | hz2
      · have := b1 z hz; omega
      · exact hz2
theorem sort_rising (l : List Int) (h : l.Nodup) : (l.mergeSort fun x y => decide (x ≤ y)).Pairwise (· < ·) := by
  have h1 := List.pairwise_mergeSort (le := fun (x y : Int) => decide (x ≤ y)) (fun a b c h1 h2 => by simp at *; omega) (fun a b => by simp; omega) l
  have h2 : (l.mergeSort fun x y => decide (x ≤ y)).Nodup := ((List.mergeSort_perm l _).nodup_iff).mpr h
  exact (h1.and h2).imp (fun {a b} hab => by
    have h3 : a ≤ b := of_decide_eq_true hab.1
    have h4 : a ≠ b := hab.2
    omega)
/-- Numbers put one behind the other. -/
def puts : List Int → List Int → List Int
  | acc, [] => acc
  | acc, n :: l => puts (put acc n) l
theorem puts_mem (y : Int) : ∀ (l acc : List Int), y ∈ puts acc l ↔ y ∈ acc ∨ y ∈ l
  | [], acc => by simp [puts]
  | n :: l, acc => by rw [puts, puts_mem y l, put_mem, List.mem_cons]; grind
theorem puts_rising : ∀ (l acc : List Int), acc.Pairwise (· < ·) → (puts acc l).Pairwise (· < ·)
  | [], acc, h => h
  | n :: l, acc, h => puts_rising l _ (put_rising n acc h)
theorem puts_app : ∀ (a b acc : List Int), puts acc (a ++ b) = puts (puts acc a) b
  | [], b, acc => rfl
  | n :: a, b, acc => by rw [List.cons_append, puts, puts_app a b]; rfl
theorem puts_len : ∀ (l acc : List Int), (puts acc l).length ≤ acc.length + l.length
  | [], acc => by simp [puts]
  | n :: l, acc => by
    rw [puts, List.length_cons]
    have h1 := puts_len l (put acc n)
    have h2 := put_len n acc
    omega
theorem sort_puts (l : List Int) (h : l.Nodup) : (l.mergeSort fun x y => decide (x ≤ y)) = puts [] l :=
  eq_of_mem _ _ (sort_rising l h) (puts_rising l [] List.Pairwise.nil) (fun x => by rw [List.mem_mergeSort, puts_mem]; simp)
/-- Where a number is put: behind the smaller ones. -/
def lead (n : Int) : List Int → Nat
  | [] => 0
  | x :: l => if x < n then lead n l + 1 else 0
theorem lead_le (n : Int) : ∀ (l : List Int), lead n l ≤ l.length
  | [] => Nat.le_refl _
  | x :: l => by
    unfold lead
    split
    · rw [List.length_cons]; have := lead_le n l; omega
    · simp
theorem put_eq (n : Int) : ∀ (l : List Int), put l n = if l[lead n l]? = some n then l else l.take (lead n l) ++ [n] ++ l.drop (lead n l)
  | [] => by simp [put, lead]
  | x :: l => by
    unfold put lead
    by_cases h : x < n
    · rw [if_pos h, if_pos h, put_eq n l, List.getElem?_cons_succ]
      split
      · rfl
      · simp
    · rw [if_neg h, if_neg h]
      by_cases h2 : x = n
      · subst h2; simp
      · rw [if_neg h2, if_neg (by simp [h2])]; simp

/-! A valid table's numbers are each there once. -/
open Go.Proofs.Ytbcklegbkdjlpaa.U
theorem chkRow_once : ∀ (l s t : List Int), chkRow l s = some t → (∀ x, x ∈ t ↔ x ∈ s ∨ x ∈ l) ∧ l.Nodup ∧ ∀ x, x ∈ l → ¬ x ∈ s
  | [], s, t, h => by injection h with h; subst h; simp
  | n :: l, s, t, h => by
    unfold chkRow at h
    split at h
    · rename_i hc
      rw [Bool.and_eq_true] at hc
      have hn : ¬ n ∈ s := by simpa using hc.2
      obtain ⟨h1, h2, h3⟩ := chkRow_once l (n :: s) t h
      refine ⟨fun x => by rw [h1, List.mem_cons, List.mem_cons]; grind, List.nodup_cons.mpr ⟨fun hm => h3 n hm List.mem_cons_self, h2⟩, fun x hx hs => ?_⟩
      rcases List.mem_cons.mp hx with rfl | hx
      · exact hn hs
      · exact h3 x hx (List.mem_cons_of_mem _ hs)
    · cases h
theorem chkRows_once (cap : Int) : ∀ (l : List (List Int)) (s t : List Int), chkRows cap l s = some t → (∀ x, x ∈ t ↔ x ∈ s ∨ x ∈ l.flatten) ∧ l.flatten.Nodup ∧ ∀ x, x ∈ l.flatten → ¬ x ∈ s
  | [], s, t, h => by injection h with h; subst h; simp
  | r :: l, s, t, h => by
    unfold chkRows at h
    split at h
    · cases h1 : chkRow r s with
      | none => rw [h1] at h; cases h
      | some u =>
        rw [h1] at h
        obtain ⟨a1, a2, a3⟩ := chkRow_once r s u h1
        obtain ⟨b1, b2, b3⟩ := chkRows_once cap l u t h
        rw [List.flatten_cons]
        refine ⟨fun x => by rw [b1, a1, List.mem_append]; grind, List.nodup_append.mpr ⟨a2, b2, fun x hx y hy e => ?_⟩, fun x hx hs => ?_⟩
        · subst e; exact b3 x hy ((a1 x).mpr (Or.inr hx))
        · rcases List.mem_append.mp hx with hx | hx
          · exact a3 x hx hs
          · exact b3 x hx ((a1 x).mpr (Or.inl hs))
    · cases h
end Go.Proofs.Ytbcklegbkdjlpaa.US
namespace Go.Proofs.Ytbcklegbkdjlpaa.UB
open Go.RowKit Go.Proofs.YtbcklegbkdjlpaaW.PrintWords Go.Proofs.YtbcklegbkdjlpaaW.PrintMore Go.Proofs.Ytbcklegbkdjlpaa.P Go.Proofs.Ytbcklegbkdjlpaa.U Go.Proofs.Ytbcklegbkdjlpaa.UT
set_option linter.unusedVariables false

theorem rdl_mem {l : List (List Int)} {s : Int} (h0 : 0 ≤ s) (h1 : s < (l.length : Int)) : rd_L1 l s ∈ l := by
  obtain ⟨n, rfl⟩ := Int.eq_ofNat_of_zero_le h0
  have h : n < l.length := by omega
  rw [show rd_L1 l (n : Int) = l[n] from rd_l1 l n h]
  exact List.getElem_mem h
/-! One number more on a stack. -/
def push (l : List (List Int)) (s n : Int) : List (List Int) := l.set s.toNat (rd_L1 l s ++ [n])
theorem push_len (l : List (List Int)) (s n : Int) : (push l s n).length = l.length := by simp [push]
theorem push_mem {l : List (List Int)} {s n : Int} {x : List Int} (h : x ∈ push l s n) : x ∈ l ∨ x = rd_L1 l s ++ [n] := List.mem_or_eq_of_mem_set h
theorem getD_out (l : List (List Int)) (j : Nat) (h : l.length ≤ j) : l.getD j [] = [] := by simp [List.getD, List.getElem?_eq_none h]
def fill (p : List Int) : Nat → Nat → List (List Int) → List (List Int)
  | 0, _, out => out
  | d + 1, i, out => fill p d (i + 1) (push out (p.getD i 0) ((i : Int) + 1))
theorem fill_len (p : List Int) : ∀ d i (out : List (List Int)), (fill p d i out).length = out.length
  | 0, _, _ => rfl
  | d + 1, i, out => by rw [fill, fill_len p d, push_len]
def rng (R : Int) (p : List Int) : Bool := p.all fun s => inr s 0 (R - 1)
def low (h : Int) (l : List (List Int)) : Bool := l.all fun r => decide ((r.length : Int) ≤ h)
/-- A row only grows. -/
theorem push_ge (l : List (List Int)) (s n : Int) (j : Nat) : (l.getD j []).length ≤ ((push l s n).getD j []).length := by
  unfold push
  by_cases hj : j < l.length
  · have hj2 : j < (l.set s.toNat (rd_L1 l s ++ [n])).length := by rw [List.length_set]; exact hj
    rw [getD_at _ _ _ hj, getD_at _ _ _ hj2, List.getElem_set]
    split
    · rename_i he
      have e : rd_L1 l s = l[j] := by
        unfold rd_L1
        rw [he]
        exact getD_at l j _ hj
      rw [e, List.length_append]; omega
    · exact Nat.le_refl _
  · rw [getD_out _ _ (by omega)]; simp
theorem fill_ge (p : List Int) (j : Nat) : ∀ d i (out : List (List Int)), (out.getD j []).length ≤ ((fill p d i out).getD j []).length
  | 0, _, _ => Nat.le_refl _
  | d + 1, i, out => by
    rw [fill]
    exact Nat.le_trans (push_ge out _ _ j) (fill_ge p j d (i + 1) _)
theorem low_at {h : Int} {l : List (List Int)} (hl : low h l = true) (j : Nat) (hj : j < l.length) : ((l.getD j []).length : Int) ≤ h := by
  rw [getD_at _ _ _ hj]
  exact of_decide_eq_true (List.all_eq_true.mp hl _ (List.getElem_mem hj))
/-- The reference's bay. -/
theorem bay1 (h : Int) (n : Nat) (p : List Int) (hn : n ≤ 5) (hp : p.length ≤ 1048576) (hr : rng n p = true) : ∀ d i (out : List (List Int)), i + d = p.length → out.length = n → (∀ x, x ∈ out → x.length ≤ i) →
    Ev (fun k => spec_l10Bay.l1 k p (i : Int) h out) (h, fill p d i out) := by
  intro d
  induction d with
  | zero =>
    intro i out hi ho hx
    exact Ev.step (fun k => by simp only [spec_l10Bay.l1]; rfl) (ev_neg (by omega) (ev_const rfl))
  | succ d ih =>
    intro i out hi ho hx
    have hlt : i < p.length := by omega
    obtain ⟨h0, h1⟩ := inr_iff.mp (List.all_eq_true.mp hr p[i] (List.getElem_mem hlt))
    have hm := hx _ (rdl_mem (l := out) h0 (by omega))
    refine Ev.step (fun k => by simp only [spec_l10Bay.l1]; rfl) (ev_pos (by omega) (ev_pos (by omega) ?_))
    rw [rd_at p i hlt, wsucc hlt (by omega)]
    refine ev_pos h0 (ev_pos (by omega) (ev_pos (by omega) ?_))
    unfold fill
    rw [getD_at p i 0 hlt]
    have hi2 := ih (i + 1) (push out p[i] ((i : Int) + 1)) (by omega) (by rw [push_len]; exact ho) (fun x hx2 => by
      rcases push_mem hx2 with hx3 | rfl
      · have := hx x hx3; omega
      · rw [List.length_append, List.length_singleton]; omega)
    have e2 : ((i + 1 : Nat) : Int) = (i : Int) + 1 := by omega
    rw [e2] at hi2 ⊢
    exact hi2
theorem bay0 (h : Int) (ports : List Int) (n : Nat) (p : List Int) (hn : n ≤ 5) (hp : p.length ≤ 1048576) (hr : rng n p = true) : ∀ d j, j + d = n →
    Ev (fun k => spec_l10Bay.l0 k p (j : Int) (n : Int) h ports h (List.replicate j [])) (h, fill p p.length 0 (List.replicate n [])) := by
  intro d
  induction d with
  | zero =>
    intro j hj
    refine Ev.step (fun k => by simp only [spec_l10Bay.l0]; rfl) (ev_neg (by omega) ?_)
    rw [show j = n by omega]
    exact bay1 h n p hn hp hr p.length 0 _ (by omega) (by simp) (fun x hx => by rw [List.eq_of_mem_replicate hx]; simp)
  | succ d ih =>
    intro j hj
    refine Ev.step (fun k => by simp only [spec_l10Bay.l0]; rfl) (ev_pos (by omega) (ev_pos (by simp; omega) ?_))
    rw [wsucc (n := 6) (by omega) (by omega)]
    have hi2 := ih (j + 1) (by omega)
    rw [List.replicate_succ'] at hi2
    exact hi2
theorem bay_spec (h : Int) (ports : List Int) (n : Nat) (p : List Int) (hn : n ≤ 5) (hp : p.length ≤ 1048576) (hr : rng n p = true) : Ev (fun k => spec_l10Bay.f k (n : Int) h ports p) (h, fill p p.length 0 (List.replicate n [])) := by
  unfold spec_l10Bay.f
  exact bay0 h ports n p hn hp hr n 0 (by omega)

/-! The bay's numbers: each once. -/
theorem flat_set : ∀ (l : List (List Int)) (k : Nat) (h : k < l.length) (n : Int), ((l.set k (l[k] ++ [n])).flatten).Perm (n :: l.flatten)
  | x :: l, 0, h, n => by
    rw [List.set_cons_zero, List.flatten_cons, List.flatten_cons, List.getElem_cons_zero, List.append_assoc]
    exact List.perm_middle
  | x :: l, k + 1, h, n => by
    rw [List.set_cons_succ, List.flatten_cons, List.flatten_cons, List.getElem_cons_succ]
    exact ((flat_set l k (by simpa using h) n).append_left x).trans List.perm_middle
theorem fill_once (n : Nat) (p : List Int) (hr : rng n p = true) : ∀ d i (out : List (List Int)), i + d = p.length → out.length = n → out.flatten.Nodup → (∀ x, x ∈ out.flatten → 1 ≤ x ∧ x ≤ (i : Int)) →
    (fill p d i out).flatten.Nodup ∧ ∀ x, x ∈ (fill p d i out).flatten → 1 ≤ x ∧ x ≤ (p.length : Int)
  | 0, i, out, hi, ho, h1, h2 => ⟨h1, fun x hx => by have := h2 x hx; unfold fill at hx; omega⟩
  | d + 1, i, out, hi, ho, h1, h2 => by
    have hlt : i < p.length := by omega
    obtain ⟨g0, g1⟩ := inr_iff.mp (List.all_eq_true.mp hr p[i] (List.getElem_mem hlt))
    have hk : p[i].toNat < out.length := by omega
    have e : push out p[i] ((i : Int) + 1) = out.set p[i].toNat (out[p[i].toNat] ++ [(i : Int) + 1]) := by
      unfold push rd_L1
      rw [getD_at _ _ _ hk]
    have hp := flat_set out p[i].toNat hk ((i : Int) + 1)
    rw [← e] at hp
    rw [fill, getD_at p i 0 hlt]
    refine fill_once n p hr d (i + 1) _ (by omega) (by rw [push_len]; exact ho) ((hp.nodup_iff).mpr (List.nodup_cons.mpr ⟨fun hm => by have := h2 _ hm; omega, h1⟩)) (fun x hx => ?_)
    rcases List.mem_cons.mp (hp.mem_iff.mp hx) with rfl | hx
    · omega
    · have := h2 x hx; omega
end Go.Proofs.Ytbcklegbkdjlpaa.UB
namespace Go.Proofs.Ytbcklegbkdjlpaa.US
open Go.RowKit Go.Proofs.YtbcklegbkdjlpaaW.PrintWords Go.Proofs.YtbcklegbkdjlpaaW.PrintMore Go.Proofs.Ytbcklegbkdjlpaa.P Go.Proofs.Ytbcklegbkdjlpaa.U Go.Proofs.Ytbcklegbkdjlpaa.UT
set_option linter.unusedVariables false

theorem lead_step (n : Int) : ∀ (l : List Int) (i : Nat) (hi : i < l.length), i ≤ lead n l → (l[i] < n → i + 1 ≤ lead n l) ∧ (¬ l[i] < n → lead n l = i)
  | x :: l, 0, hi, h => by
    unfold lead
    refine ⟨fun hx => ?_, fun hx => ?_⟩
    · rw [if_pos (show x < n from hx)]; omega
    · rw [if_neg (show ¬ x < n from hx)]
  | x :: l, i + 1, hi, h => by
    unfold lead at h ⊢
    by_cases hx : x < n
    · rw [if_pos hx] at h ⊢
      have := lead_step n l i (by simpa using hi) (by omega)
      exact ⟨fun h1 => by have := this.1 h1; omega, fun h1 => by have := this.2 h1; omega⟩
    · rw [if_neg hx] at h; omega
theorem put_l (l : List Int) (n : Int) (hl : l.length ≤ 1048576) : ∀ d i, i + d = l.length → i ≤ lead n l → Ev (fun k => spec_l1Put.l0 k l n (i : Int)) (put l n) := by
  have stop : ∀ (i : Nat), i ≤ l.length → lead n l = i → ¬ l[i]? = some n → put l n = l.take i ++ [n] ++ l.drop i := fun i _ h1 h2 => by rw [put_eq, h1, if_neg h2]
  intro d
  induction d with
  | zero =>
    intro i hi h
    have hle := lead_le n l
    refine Ev.step (fun k => by simp only [spec_l1Put.l0]; rfl) (ev_neg (by omega) (ev_const ?_))
    rw [stop i (by omega) (by omega) (by rw [List.getElem?_eq_none (by omega)]; simp)]
    simp only [Option.bind_some, List.nil_append, List.length_nil, List.length_append, List.length_take, List.length_drop, List.length_singleton, Int.toNat_natCast]
    rw [if_pos (by omega), if_pos (by omega), if_pos (by omega), if_pos (by omega), if_pos (by omega)]
  | succ d ih =>
    intro i hi h
    have hlt : i < l.length := by omega
    obtain ⟨s1, s2⟩ := lead_step n l i hlt h
    refine Ev.step (fun k => by simp only [spec_l1Put.l0]; rfl) (ev_pos (by omega) (ev_pos (by omega) ?_))
    rw [rd_at l i hlt, wsucc hlt (by omega)]
    by_cases hc : l[i] < n
    · exact ev_pos hc (ih (i + 1) (by omega) (s1 hc))
    · refine ev_neg hc ?_
      by_cases he : l[i] = n
      · refine ev_eq (ev_pos he (ev_const rfl)) ?_
        rw [put_eq, s2 hc, if_pos (by rw [List.getElem?_eq_getElem hlt, he])]
      · refine ev_neg he (ev_const ?_)
        rw [stop i (by omega) (s2 hc) (by rw [List.getElem?_eq_getElem hlt]; simpa using he)]
        simp only [Option.bind_some, List.nil_append, List.length_nil, List.length_append, List.length_take, List.length_drop, List.length_singleton, Int.toNat_natCast]
        rw [if_pos (by omega), if_pos (by omega), if_pos (by omega), if_pos (by omega)]
theorem put_ev (l : List Int) (n : Int) (hl : l.length ≤ 1048576) : Ev (fun k => spec_l1Put.f k l n) (put l n) := by
  unfold spec_l1Put.f
  exact put_l l n hl l.length 0 (by omega) (by omega)
end Go.Proofs.Ytbcklegbkdjlpaa.US
namespace Go.Proofs.Ytbcklegbkdjlpaa.UB
open Go.RowKit Go.Proofs.YtbcklegbkdjlpaaW.PrintWords Go.Proofs.YtbcklegbkdjlpaaW.PrintMore Go.Proofs.Ytbcklegbkdjlpaa.P Go.Proofs.Ytbcklegbkdjlpaa.U Go.Proofs.Ytbcklegbkdjlpaa.UT Go.Proofs.Ytbcklegbkdjlpaa.US
set_option linter.unusedVariables false

theorem put_idem (n : Int) : ∀ (l : List Int), put (put l n) n = put l n
  | [] => by simp [put]
  | x :: l => by
    by_cases h : x < n
    · have e : put (x :: l) n = x :: put l n := by rw [put, if_pos h]
      rw [e]
      rw [show put (x :: put l n) n = x :: put (put l n) n by rw [put, if_pos h], put_idem n l]
    · by_cases h2 : x = n
      · subst h2
        have e : put (x :: l) x = x :: l := by rw [put, if_neg h, if_pos rfl]
        rw [e, e]
      · have e : put (x :: l) n = n :: x :: l := by rw [put, if_neg h, if_neg h2]
        rw [e, put, if_neg (by omega), if_pos rfl]
theorem shR_sub (ports row : List Int) : ∀ d j, j + d = row.length → (shR ports row d j).Sublist (row.drop j)
  | 0, j, h => by unfold shR; exact List.nil_sublist _
  | d + 1, j, h => by
    have hlt : j < row.length := by omega
    unfold shR
    rw [List.drop_eq_getElem_cons hlt, getD_at _ _ _ hlt]
    have ih := shR_sub ports row d (j + 1) (by omega)
    split
    · exact ih.cons_cons _
    · rw [List.nil_append]; exact ih.cons _
theorem shA_sub (ports : List Int) : ∀ (l : List (List Int)), (shA ports l).Sublist l.flatten
  | [] => List.Sublist.refl _
  | r :: l => by
    unfold shA
    rw [List.flatten_cons]
    exact (shR_sub ports r r.length 0 (by omega)).append (shA_sub ports l)
theorem flat_len : ∀ (l : List (List Int)), (∀ x, x ∈ l → x.length ≤ 4) → l.flatten.length ≤ 4 * l.length
  | [], _ => Nat.le_refl _
  | r :: l, h => by
    have h2 := h r List.mem_cons_self
    have h3 := flat_len l (fun x hx => h x (List.mem_cons_of_mem _ hx))
    rw [List.flatten_cons, List.length_append, List.length_cons]; omega
abbrev pr (P row : List Int) (j : Nat) : Int → Bool := fun m => decide (P.getD (m - 1).toNat 0 < P.getD (row.getD j 0 - 1).toNat 0)
theorem sh_l2 {P : List Int} {l : List (List Int)} (hP : P.length ≤ 7) (R h c : Int) (i : Nat) (hi : i < l.length) (hn : l.length ≤ 5) (h4 : l[i].length ≤ 4) (hx : ∀ x, x ∈ l[i] → 1 ≤ x ∧ x ≤ (P.length : Int)) (j : Nat) (hj : j < l[i].length) (r : List Int) : ∀ d m (acc : List Int), m + d = j → acc.length + d ≤ 1048576 →
    Ev (fun k => spec_l10Shifted.l1 k (if ((l[i].take j).drop m).any (pr P l[i] j) = true then put acc l[i][j] else acc) (i : Int) ((j + 1 : Nat) : Int) R h P c l) r → Ev (fun k => spec_l10Shifted.l2 k acc (i : Int) (j : Int) (m : Int) R h P c l) r := by
  intro d
  induction d with
  | zero =>
    intro m acc hm ha he
    refine Ev.step (fun k => by simp only [spec_l10Shifted.l2]; rfl) (ev_neg (by omega) ?_)
    rw [wsucc hj (by omega)]
    rw [List.drop_of_length_le (by rw [List.length_take]; omega)] at he
    exact he
  | succ d ih =>
    intro m acc hm ha he
    have hmt : m < l[i].length := by omega
    have b1 := hx l[i][m] (List.getElem_mem hmt)
    have b2 := hx l[i][j] (List.getElem_mem hj)
    refine Ev.step (fun k => by simp only [spec_l10Shifted.l2]; rfl) ?_
    rw [rd_l1 l i hi, rd_at _ m hmt, rd_at _ j hj, wr (x := l[i][m] - 1) (by omega) (by omega), wr (x := l[i][j] - 1) (by omega) (by omega), wsucc hmt (by omega)]
    refine ev_pos (by omega) ?_
    refine ev_pos (by omega) ?_
    refine ev_pos (by omega) ?_
    refine ev_pos (by omega) ?_
    refine ev_pos (by omega) ?_
    refine ev_pos (by omega) ?_
    refine ev_pos (by omega) ?_
    refine ev_pos (by omega) ?_
    refine ev_pos (by omega) ?_
    refine ev_pos (by omega) ?_
    refine ev_pos (by omega) ?_
    have hmk : m < (l[i].take j).length := by rw [List.length_take]; omega
    have hd : (l[i].take j).drop m = l[i][m] :: (l[i].take j).drop (m + 1) := by rw [List.drop_eq_getElem_cons hmk, List.getElem_take]
    rw [hd, List.any_cons] at he
    have hp : pr P l[i] j l[i][m] = decide (rd P (l[i][m] - 1) < rd P (l[i][j] - 1)) := by
      unfold pr rd
      rw [getD_at _ _ _ hj]
    rw [hp] at he
    by_cases hc : rd P (l[i][m] - 1) < rd P (l[i][j] - 1)
    · rw [decide_eq_true hc, Bool.true_or, if_pos rfl] at he
      have hl := put_len l[i][j] acc
      refine ev_pos hc (Ev.bind (put_ev acc l[i][j] (by omega)) ?_)
      refine ih (m + 1) _ (by omega) (by omega) ?_
      rw [put_idem]
      split <;> exact he
    · rw [decide_eq_false hc, Bool.false_or] at he
      exact ev_neg hc (ih (m + 1) acc (by omega) (by omega) he)
theorem sh_l1 {P : List Int} {l : List (List Int)} (hP : P.length ≤ 7) (R h c : Int) (i : Nat) (hi : i < l.length) (hn : l.length ≤ 5) (h4 : l[i].length ≤ 4) (hx : ∀ x, x ∈ l[i] → 1 ≤ x ∧ x ≤ (P.length : Int)) (r : List Int) : ∀ d j (acc : List Int), j + d = l[i].length → acc.length ≤ 4 * i + j →
    Ev (fun k => spec_l10Shifted.l0 k (puts acc (shR P l[i] d j)) ((i + 1 : Nat) : Int) R h P c l) r → Ev (fun k => spec_l10Shifted.l1 k acc (i : Int) (j : Int) R h P c l) r := by
  intro d
  induction d with
  | zero =>
    intro j acc hj ha he
    refine Ev.step (fun k => by simp only [spec_l10Shifted.l1]; rfl) ?_
    rw [rd_l1 l i hi, wsucc hi (by omega)]
    refine ev_pos (by omega) (ev_pos (by omega) (ev_neg (by omega) ?_))
    exact he
  | succ d ih =>
    intro j acc hj ha he
    have hjt : j < l[i].length := by omega
    refine Ev.step (fun k => by simp only [spec_l10Shifted.l1]; rfl) ?_
    rw [rd_l1 l i hi]
    refine ev_pos (by omega) (ev_pos (by omega) (ev_pos (by omega) ?_))
    refine sh_l2 hP R h c i hi hn h4 hx j hjt r j 0 acc (by omega) (by omega) ?_
    rw [List.drop_zero]
    have hl := put_len l[i][j] acc
    unfold shR at he
    rw [getD_at _ _ _ hjt] at he
    change Ev _ r at he
    cases hb : shB P l[i] j
    · rw [hb, if_neg (by simp), List.nil_append] at he
      have hb2 : (l[i].take j).any (pr P l[i] j) = false := hb
      rw [hb2, if_neg (by simp)]
      exact ih (j + 1) acc (by omega) (by omega) he
    · rw [hb, if_pos rfl] at he
      have hb2 : (l[i].take j).any (pr P l[i] j) = true := hb
      rw [hb2, if_pos rfl]
      exact ih (j + 1) _ (by omega) (by omega) he
theorem sh_l0 {P : List Int} {l : List (List Int)} (hP : P.length ≤ 7) (R h c : Int) (hn : l.length ≤ 5) (h4 : ∀ x, x ∈ l → x.length ≤ 4) (hx : ∀ x, x ∈ l.flatten → 1 ≤ x ∧ x ≤ (P.length : Int)) : ∀ d i (acc : List Int), i + d = l.length → acc.length ≤ 4 * i →
    Ev (fun k => spec_l10Shifted.l0 k acc (i : Int) R h P c l) (puts acc (shA P (l.drop i))) := by
  intro d
  induction d with
  | zero =>
    intro i acc hi ha
    refine Ev.step (fun k => by simp only [spec_l10Shifted.l0]; rfl) (ev_neg (by omega) (ev_const ?_))
    rw [List.drop_of_length_le (by omega)]; rfl
  | succ d ih =>
    intro i acc hi ha
    have hlt : i < l.length := by omega
    have h4i := h4 _ (List.getElem_mem hlt)
    refine Ev.step (fun k => by simp only [spec_l10Shifted.l0]; rfl) (ev_pos (by omega) ?_)
    rw [List.drop_eq_getElem_cons hlt]
    refine sh_l1 hP R h c i hlt hn h4i (fun x hx2 => hx x (List.mem_flatten.mpr ⟨_, List.getElem_mem hlt, hx2⟩)) _ l[i].length 0 acc (by omega) (by omega) ?_
    have hl := puts_len (shR P l[i] l[i].length 0) acc
    have hl2 := shR_len P l[i] l[i].length 0
    have hh := ih (i + 1) (puts acc (shR P l[i] l[i].length 0)) (by omega) (by omega)
    unfold shA
    rw [puts_app]
    exact hh
theorem sh_spec {P : List Int} {l : List (List Int)} (hP : P.length ≤ 7) (R h c : Int) (hn : l.length ≤ 5) (h4 : ∀ x, x ∈ l → x.length ≤ 4) (hx : ∀ x, x ∈ l.flatten → 1 ≤ x ∧ x ≤ (P.length : Int)) : Ev (fun k => spec_l10Shifted.f k R h P c l) (puts [] (shA P l)) := by
  unfold spec_l10Shifted.f
  exact sh_l0 hP R h c hn h4 hx l.length 0 [] (by omega) (by simp)
theorem sh_impl {P : List Int} {l : List (List Int)} (R h c : Int) (hn : l.length ≤ 5) (h4 : ∀ x, x ∈ l → x.length ≤ 4) (hx : ∀ x, x ∈ l.flatten → 1 ≤ x ∧ x ≤ (P.length : Int)) (h1 : l.flatten.Nodup) : impl_shiftedBoxes.f R h P c l = some (puts [] (shA P l)) := by
  have hf := flat_len l h4
  have hok : shOk P l = true := by
    unfold shOk
    rw [Bool.and_eq_true]
    refine ⟨decide_eq_true (by omega), List.all_eq_true.mpr fun r hr => List.all_eq_true.mpr fun m hm => ?_⟩
    have := hx m (List.mem_flatten.mpr ⟨r, hr, hm⟩)
    rw [Bool.and_eq_true]
    exact ⟨decide_eq_true this.1, decide_eq_true this.2⟩
  unfold impl_shiftedBoxes.f
  rw [if_pos hok, sort_puts _ ((shA_sub P l).nodup h1)]
theorem sh_len {P : List Int} {l : List (List Int)} (hn : l.length ≤ 5) (h4 : ∀ x, x ∈ l → x.length ≤ 4) : (puts [] (shA P l)).length ≤ 20 := by
  have h1 := puts_len (shA P l) []
  have h2 := shA_len P l
  have h3 := flat_len l h4
  rw [List.length_nil] at h1
  omega
end Go.Proofs.Ytbcklegbkdjlpaa.UB
namespace Go.Proofs.Ytbcklegbkdjlpaa.UB
open Go.RowKit Go.Proofs.YtbcklegbkdjlpaaW.PrintWords Go.Proofs.YtbcklegbkdjlpaaW.PrintMore Go.Proofs.Ytbcklegbkdjlpaa.P Go.Proofs.Ytbcklegbkdjlpaa.U Go.Proofs.Ytbcklegbkdjlpaa.UT Go.Proofs.Ytbcklegbkdjlpaa.US
set_option linter.unusedVariables false

theorem loop_impl (R h : Int) (ports p : List Int) (hR : R ≤ 5) (hh : h ≤ 4) (hp : p.length ≤ 7) : ∀ d i (out : List (List Int)), i + d = p.length → (out.length : Int) = R → low h out = true →
    Ev (fun k => impl_planBay.l0 k p (p.length : Int) (i : Int) R h ports h out) (if rng R (p.drop i) = true ∧ low h (fill p d i out) = true then (h, fill p d i out, true) else (0, [], false)) := by
  intro d
  induction d with
  | zero =>
    intro i out hi ho hl
    refine Ev.step (fun k => by simp only [impl_planBay.l0]; rfl) (ev_neg (by omega) (ev_const ?_))
    rw [List.drop_of_length_le (by omega), if_pos ⟨rfl, hl⟩]; rfl
  | succ d ih =>
    intro i out hi ho hl
    have hlt : i < p.length := by omega
    refine Ev.step (fun k => by simp only [impl_planBay.l0]; rfl) (ev_pos (by omega) (ev_pos (by omega) (ev_pos (by omega) ?_)))
    rw [rd_at p i hlt, wsucc hlt (by omega), wr (x := R - 1) (by omega) (by omega), List.drop_eq_getElem_cons hlt]
    refine ev_call (in_impl _ _ _) ?_
    unfold rng
    rw [List.all_cons]
    cases hk : inr p[i] 0 (R - 1)
    · rw [if_neg (by simp)]
      exact ev_neg (by simp) (ev_const rfl)
    · obtain ⟨h0, h1⟩ := inr_iff.mp hk
      have hlt2 : p[i].toNat < out.length := by omega
      have e : rd_L1 out p[i] = out.getD p[i].toNat [] := rfl
      have hb := low_at hl p[i].toNat hlt2
      unfold fill
      rw [getD_at p i 0 hlt, Bool.true_and]
      refine ev_pos rfl (ev_pos h0 (ev_pos (by omega) ?_))
      by_cases hc : ((rd_L1 out p[i]).length : Int) = h
      · refine ev_eq (ev_pos hc (ev_const rfl)) ?_
        rw [if_neg]
        rintro ⟨_, hf⟩
        have hlen : p[i].toNat < (fill p d (i + 1) (push out p[i] ((i : Int) + 1))).length := by rw [fill_len, push_len]; exact hlt2
        have h2 := low_at hf p[i].toNat hlen
        have h3 := fill_ge p p[i].toNat d (i + 1) (push out p[i] ((i : Int) + 1))
        have h4 : ((push out p[i] ((i : Int) + 1)).getD p[i].toNat []).length = (rd_L1 out p[i]).length + 1 := by
          unfold push
          rw [set_getD _ _ _ hlt2, List.length_append, List.length_singleton]
        omega
      · rw [e] at hc
        have hlow : low h (push out p[i] ((i : Int) + 1)) = true := by
          refine List.all_eq_true.mpr fun r hr => decide_eq_true ?_
          rcases push_mem hr with hr | rfl
          · exact of_decide_eq_true (List.all_eq_true.mp hl _ hr)
          · rw [List.length_append, List.length_singleton, e]; omega
        have hi2 := ih (i + 1) (push out p[i] ((i : Int) + 1)) (by omega) (by rw [push_len]; exact ho) hlow
        refine ev_neg (by rw [e]; exact hc) (ev_pos (by rw [e]; omega) ?_)
        have e2 : ((i + 1 : Nat) : Int) = (i : Int) + 1 := by omega
        rw [e2] at hi2 ⊢
        exact hi2
theorem fill_more (p : List Int) (x : Int) : ∀ d i (out : List (List Int)), i + d = p.length → fill (p ++ [x]) (d + 1) i out = push (fill p d i out) x ((p.length : Int) + 1)
  | 0, i, out, h => by
    rw [fill, fill, fill, show i = p.length by omega, show (p ++ [x]).getD p.length 0 = x by simp [List.getD]]
  | d + 1, i, out, h => by
    rw [fill, fill_more p x d (i + 1) _ (by omega), show (p ++ [x]).getD i 0 = p.getD i 0 by rw [List.getD, List.getD, List.getElem?_append_left (by omega)]]
    conv => rhs; rw [fill]
theorem own1_spec (l : List Int) (hn : l.length ≤ 1048576) : spec_l1Own.f l = some l := by
  unfold spec_l1Own.f
  show (if ([] : List Int).length + l.length < 17592186044416 then some ([] ++ l) else none) = some l
  rw [if_pos (by simp; omega)]; rfl
/-! The best stowage: the program's walk over all plans and the reference's search. -/
def merge (a x : List Int × Int) : List Int × Int := if 0 ≤ x.2 ∧ (a.2 < 0 ∨ x.2 < a.2) then x else a
theorem merge_assoc (s a x : List Int × Int) : merge s (merge a x) = merge (merge s a) x := by
  unfold merge
  repeat' split
  all_goals first | rfl | (exfalso; simp only [not_and_or, not_or, not_lt, not_le] at *; omega) | omega
theorem merge_none (s : List Int × Int) : merge s ([], -1) = s := by
  unfold merge; rw [if_neg]; simp
def sBr (f : Nat → List Int × Int) (full : Nat → Bool) : Nat → Nat → List Int × Int → List Int × Int
  | 0, _, acc => acc
  | c + 1, j, acc => sBr f full c (j + 1) (if full j = true then acc else merge acc (f j))
theorem sBr_merge (f : Nat → List Int × Int) (full : Nat → Bool) (s : List Int × Int) : ∀ c j acc, sBr f full c j (merge s acc) = merge s (sBr f full c j acc)
  | 0, _, _ => rfl
  | c + 1, j, acc => by
    rw [sBr, sBr]
    by_cases h : full j = true
    · rw [if_pos h, if_pos h]; exact sBr_merge f full s c (j + 1) acc
    · rw [if_neg h, if_neg h, ← merge_assoc]; exact sBr_merge f full s c (j + 1) _
theorem sBr_ind (P : List Int × Int → Prop) (f : Nat → List Int × Int) (full : Nat → Bool) (hf : ∀ j, P (f j)) : ∀ c j acc, P acc → P (sBr f full c j acc)
  | 0, _, _, h => h
  | c + 1, j, acc, h => by
    rw [sBr]
    refine sBr_ind P f full hf c (j + 1) _ ?_
    split
    · exact h
    · unfold merge
      split
      · exact hf j
      · exact h
abbrev tabOf (n : Nat) (p : List Int) : List (List Int) := fill p p.length 0 (List.replicate n [])
def sB (n : Nat) (h : Int) (l : List Int) : Nat → List Int → List Int × Int
  | 0, p => (p, ((puts [] (shA l (tabOf n p))).length : Int))
  | d + 1, p => sBr (fun j => sB n h l d (p ++ [(j : Int)])) (fun j => decide ((((tabOf n p).getD j []).length : Int) = h)) n 0 ([], -1)
theorem sB_len (n : Nat) (h : Int) (l : List Int) : ∀ d p, (sB n h l d p).1.length ≤ p.length + d
  | 0, p => by rw [sB]; simp
  | d + 1, p => by
    rw [sB]
    refine sBr_ind (fun x => x.1.length ≤ p.length + (d + 1)) _ _ (fun j => ?_) n 0 _ (by simp)
    have := sB_len n h l d (p ++ [(j : Int)])
    rw [List.length_append, List.length_singleton] at this
    omega
theorem sB_two (n : Nat) (h : Int) (l : List Int) : ∀ d p, sB n h l d p = ([], -1) ∨ 0 ≤ (sB n h l d p).2
  | 0, p => by rw [sB]; exact .inr (by show (0 : Int) ≤ _; omega)
  | d + 1, p => by
    rw [sB]
    exact sBr_ind (fun x => x = ([], -1) ∨ 0 ≤ x.2) _ _ (fun j => sB_two n h l d _) n 0 _ (.inl rfl)
theorem tab_more (n : Nat) (p : List Int) (x : Int) : tabOf n (p ++ [x]) = push (tabOf n p) x ((p.length : Int) + 1) := by
  show fill (p ++ [x]) (p ++ [x]).length 0 _ = _
  rw [List.length_append, List.length_singleton]
  exact fill_more p x p.length 0 _ (by omega)
theorem tab_len (n : Nat) (p : List Int) : (tabOf n p).length = n := by rw [fill_len, List.length_replicate]
theorem rng_more {n : Nat} {p : List Int} (hr : rng n p = true) {j : Nat} (hj : j < n) : rng n (p ++ [(j : Int)]) = true := by
  unfold rng at hr ⊢
  rw [List.all_append, hr, List.all_cons, List.all_nil, show inr (j : Int) 0 ((n : Int) - 1) = true from inr_iff.mpr (by omega)]; rfl
/-- A row that is too high stays so. -/
theorem over_more {n : Nat} {h : Int} {p : List Int} (x : Int) (ho : low h (tabOf n p) = false) : low h (tabOf n (p ++ [x])) = false := by
  rw [tab_more]
  obtain ⟨r, hr, hh⟩ := List.all_eq_false.mp ho
  obtain ⟨j, hj, rfl⟩ := List.getElem_of_mem hr
  have hj2 : j < (push (tabOf n p) x ((p.length : Int) + 1)).length := by rw [push_len]; exact hj
  refine List.all_eq_false.mpr ⟨(push (tabOf n p) x ((p.length : Int) + 1))[j], List.getElem_mem hj2, ?_⟩
  have hg := push_ge (tabOf n p) x ((p.length : Int) + 1) j
  rw [getD_at _ _ _ hj, getD_at _ _ _ hj2] at hg
  simp only [decide_eq_true_eq] at hh ⊢
  omega
theorem low_more {n : Nat} {h : Int} {p : List Int} (hl : low h (tabOf n p) = true) {j : Nat} (hj : j < n) : low h (tabOf n (p ++ [(j : Int)])) = !decide ((((tabOf n p).getD j []).length : Int) = h) := by
  rw [tab_more]
  have hjt : j < (tabOf n p).length := by rw [tab_len]; exact hj
  have hb := low_at hl j hjt
  have e : push (tabOf n p) (j : Int) ((p.length : Int) + 1) = (tabOf n p).set j ((tabOf n p).getD j [] ++ [(p.length : Int) + 1]) := rfl
  by_cases hc : (((tabOf n p).getD j []).length : Int) = h
  · rw [decide_eq_true hc]
    have hj2 : j < (push (tabOf n p) (j : Int) ((p.length : Int) + 1)).length := by rw [push_len]; exact hjt
    refine List.all_eq_false.mpr ⟨(tabOf n p).getD j [] ++ [(p.length : Int) + 1], ?_, ?_⟩
    · rw [e]; exact List.mem_set hjt _
    · rw [List.length_append, List.length_singleton]; simp only [decide_eq_true_eq]; omega
  · rw [decide_eq_false hc]
    refine List.all_eq_true.mpr fun r hr => ?_
    rw [e] at hr
    rcases List.mem_or_eq_of_mem_set hr with hr | rfl
    · exact List.all_eq_true.mp hl r hr
    · rw [List.length_append, List.length_singleton]; exact decide_eq_true (by omega)
/-- A bay's facts. -/
theorem bay_facts {n : Nat} {h : Int} {l : List Int} (hn : 1 ≤ n ∧ n ≤ 5) (hh : 1 ≤ h ∧ h ≤ 4) (p : List Int) (hp : p.length ≤ l.length) (hr : rng n p = true) (hl : low h (tabOf n p) = true) : (tabOf n p).flatten.Nodup ∧ (∀ x, x ∈ (tabOf n p).flatten → 1 ≤ x ∧ x ≤ (l.length : Int)) ∧ (tabOf n p).length ≤ 5 ∧ ∀ x, x ∈ tabOf n p → x.length ≤ 4 := by
  obtain ⟨g1, g2⟩ := fill_once n p hr p.length 0 (List.replicate n []) (by omega) (by simp) (by simp) (fun x hx => by simp at hx)
  exact ⟨g1, fun x hx => by have := g2 x hx; omega, by rw [tab_len]; omega, fun x hx => by have := of_decide_eq_true (List.all_eq_true.mp hl x hx); omega⟩
section
variable {n : Nat} {h : Int} {l : List Int} (hn : 1 ≤ n ∧ n ≤ 5) (hh : 1 ≤ h ∧ h ≤ 4) (h7 : l.length ≤ 7) (hk : okSt (n : Int) h l = true)
include hn hh h7 hk
theorem plan_ev (p : List Int) (hp : p.length = l.length) (hr : rng n p = true) : Ev (fun k => impl_planBay.f k (n : Int) h l p) (if low h (tabOf n p) = true then (h, tabOf n p, true) else (0, [], false)) := by
  have hlow0 : low h (List.replicate n []) = true := by
    refine List.all_eq_true.mpr fun r hr => ?_
    rw [List.eq_of_mem_replicate hr]; exact decide_eq_true (by simp; omega)
  have hi := loop_impl (n : Int) h l p (by omega) hh.2 (by omega) p.length 0 (List.replicate n []) (by omega) (by simp) hlow0
  rw [List.drop_zero] at hi
  have e : (if rng (n : Int) p = true ∧ low h (tabOf n p) = true then (h, tabOf n p, true) else (0, [], false)) = (if low h (tabOf n p) = true then (h, tabOf n p, true) else (0, [], false)) := by
    by_cases hq : low h (tabOf n p) = true
    · rw [if_pos ⟨hr, hq⟩, if_pos hq]
    · rw [if_neg (fun hc => hq hc.2), if_neg hq]
  rw [← e]
  unfold impl_planBay.f
  refine ev_call (show impl_IsValidStowage.f (n : Int) h l = some (okSt n h l) from rfl) ?_
  rw [hk, show ((p.length : Int) != (l.length : Int)) = false by rw [hp]; simp]
  refine ev_pos rfl (Ev.step (fun k => by simp only [impl_planBay.j0]; rfl) ?_)
  refine ev_neg (by simp) (ev_pos (by omega) (ev_pos (by omega) ?_))
  rw [Int.toNat_natCast]
  exact hi
theorem step_ev (p : List Int) (hp : p.length = l.length) (hr : rng n p = true) (s : List Int × Int) : Ev (fun k => bsStep k (n : Int) h l s p) (if low h (tabOf n p) = true then merge s (sB n h l 0 p) else s) := by
  have hpl := plan_ev hn hh h7 hk p hp hr
  by_cases hl : low h (tabOf n p) = true
  · rw [if_pos hl] at hpl ⊢
    obtain ⟨g1, g2, g3, g4⟩ := bay_facts (l := l) hn hh p (by omega) hr hl
    unfold bsStep
    refine Ev.bind hpl (ev_pos rfl (ev_call (sh_impl (n : Int) h h g3 g4 g2 g1) ?_))
    unfold merge
    rw [sB]
    by_cases hc : s.2 < 0 ∨ ((puts [] (shA l (tabOf n p))).length : Int) < s.2
    · exact ev_eq (ev_pos hc (ev_const rfl)) (if_pos ⟨by show (0 : Int) ≤ _; omega, hc⟩).symm
    · exact ev_eq (ev_neg hc (ev_const rfl)) (if_neg (fun h => hc h.2)).symm
  · rw [if_neg hl] at hpl ⊢
    unfold bsStep
    exact Ev.bind hpl (ev_neg (by simp) (ev_const rfl))
theorem go_ev : ∀ d p s, p.length + d = l.length → rng n p = true → Ev (fun k => chGo n (bsStep k (n : Int) h l) d p s) (if low h (tabOf n p) = true then merge s (sB n h l d p) else s)
  | 0, p, s, hp, hr => by
    have := step_ev hn hh h7 hk p (by omega) hr s
    exact this
  | d + 1, p, s, hp, hr => by
    have ih := go_ev d
    by_cases hl : low h (tabOf n p) = true
    · rw [if_pos hl, sB, ← sBr_merge, merge_none]
      have key : ∀ c j s1, j + c = n → Ev (fun k => chL (fun j s1 => chGo n (bsStep k (n : Int) h l) d (p ++ [(j : Int)]) s1) c j s1) (sBr (fun j => sB n h l d (p ++ [(j : Int)])) (fun j => decide ((((tabOf n p).getD j []).length : Int) = h)) c j s1) := by
        intro c
        induction c with
        | zero => intro j s1 hj; exact ev_const rfl
        | succ c ihc =>
          intro j s1 hj
          have h1 := ih (p ++ [(j : Int)]) s1 (by rw [List.length_append, List.length_singleton]; omega) (rng_more hr (by omega))
          rw [low_more hl (show j < n by omega)] at h1
          refine Ev.bind h1 ?_
          rw [sBr]
          have e : (if (!decide ((((tabOf n p).getD j []).length : Int) = h)) = true then merge s1 (sB n h l d (p ++ [(j : Int)])) else s1) = (if decide ((((tabOf n p).getD j []).length : Int) = h) = true then s1 else merge s1 (sB n h l d (p ++ [(j : Int)]))) := by
            cases decide ((((tabOf n p).getD j []).length : Int) = h) <;> rfl
          rw [e]
          exact ihc (j + 1) _ (by omega)
      exact key n 0 s (by omega)
    · have hl2 : low h (tabOf n p) = false := by cases hq : low h (tabOf n p) <;> simp_all
      rw [if_neg hl]
      have key : ∀ c j s1, j + c = n → Ev (fun k => chL (fun j s1 => chGo n (bsStep k (n : Int) h l) d (p ++ [(j : Int)]) s1) c j s1) s1 := by
        intro c
        induction c with
        | zero => intro j s1 hj; exact ev_const rfl
        | succ c ihc =>
          intro j s1 hj
          have h1 := ih (p ++ [(j : Int)]) s1 (by rw [List.length_append, List.length_singleton]; omega) (rng_more hr (by omega))
          rw [over_more _ hl2, if_neg (by simp)] at h1
          exact Ev.bind h1 (ihc (j + 1) s1 (by omega))
      exact key n 0 s (by omega)
end
/-- The reference's search. -/
theorem spec_ev {n : Nat} {h : Int} {l : List Int} (hn : 1 ≤ n ∧ n ≤ 5) (hh : 1 ≤ h ∧ h ≤ 4) (h7 : l.length ≤ 7) : ∀ d p, p.length + d = l.length → rng n p = true → low h (tabOf n p) = true → Ev (fun k => spec_l10Best.f k (n : Int) h l p) (sB n h l d p)
  | 0, p, hp, hr, hl => by
    have hb := bay_spec h l n p hn.2 (by omega) hr
    obtain ⟨g1, g2, g3, g4⟩ := bay_facts (l := l) hn hh p (by omega) hr hl
    refine Ev.step (fun k => by simp only [spec_l10Best.f]; rfl) (Ev.bind hb ?_)
    refine ev_pos (by omega) ?_
    exact Ev.bind (sh_spec h7 (n : Int) h h g3 g4 g2) (ev_const rfl)
  | d + 1, p, hp, hr, hl => by
    have ih := spec_ev hn hh h7 d
    have hb := bay_spec h l n p hn.2 (by omega) hr
    refine Ev.step (fun k => by simp only [spec_l10Best.f]; rfl) (Ev.bind hb ?_)
    refine ev_neg (by omega) ?_
    rw [sB]
    have key : ∀ c j acc, j + c = n → Ev (fun k => spec_l10Best.l0 k p acc.1 acc.2 (j : Int) (n : Int) h l h (tabOf n p)) (sBr (fun j => sB n h l d (p ++ [(j : Int)])) (fun j => decide ((((tabOf n p).getD j []).length : Int) = h)) c j acc) := by
      intro c
      induction c with
      | zero => intro j acc hj; exact Ev.step (fun k => by simp only [spec_l10Best.l0]; rfl) (ev_neg (by omega) (ev_const rfl))
      | succ c ihc =>
        intro j acc hj
        have hjt : j < (tabOf n p).length := by rw [tab_len]; omega
        have hjl : j < n := by omega
        refine Ev.step (fun k => by simp only [spec_l10Best.l0]; rfl) (ev_pos (by omega) (ev_pos (by omega) (ev_pos (by omega) ?_)))
        rw [show rd_L1 (tabOf n p) (j : Int) = (tabOf n p).getD j [] from by unfold rd_L1; rw [Int.toNat_natCast], wsucc hjl (by omega), sBr]
        by_cases hc : (((tabOf n p).getD j []).length : Int) = h
        · rw [if_pos (decide_eq_true hc)]
          exact ev_pos hc (ihc (j + 1) acc (by omega))
        · rw [if_neg (by simpa using hc)]
          have hlow : low h (tabOf n (p ++ [(j : Int)])) = true := by rw [low_more hl hjl, decide_eq_false hc]; rfl
          have hrec := ih (p ++ [(j : Int)]) (by rw [List.length_append, List.length_singleton]; omega) (rng_more hr hjl) hlow
          refine ev_neg hc (ev_call (own1_spec p (by omega)) (ev_call (show some (([(j : Int)] : List Int) : List Int) = some [(j : Int)] from rfl) (ev_pos (by simp; omega) (Ev.bind hrec ?_))))
          have hgo := ihc (j + 1) (merge acc (sB n h l d (p ++ [(j : Int)]))) (by omega)
          generalize sB n h l d (p ++ [(j : Int)]) = x at hgo ⊢
          unfold merge at hgo ⊢
          by_cases c1 : x.2 ≥ 0
          · refine ev_pos c1 ?_
            by_cases c2 : acc.2 < 0
            · rw [if_pos ⟨c1, .inl c2⟩] at hgo ⊢
              exact ev_pos c2 hgo
            · refine ev_neg c2 ?_
              by_cases c3 : x.2 < acc.2
              · rw [if_pos ⟨c1, .inr c3⟩] at hgo ⊢
                exact ev_pos c3 hgo
              · rw [if_neg (fun hq => hq.2.elim c2 c3)] at hgo ⊢
                exact ev_neg c3 hgo
          · rw [if_neg (fun hq => c1 hq.1)] at hgo ⊢
            exact ev_neg c1 hgo
    exact key n 0 ([], -1) (by omega)
theorem best_same (R h : Int) (l : List Int) (hn : l.length ≤ 1048576) :
    ∃ (r : List Int) (m : Int) (b : Bool), Ev (fun k => spec_BestStowage.f k R h l) (r, m, b) ∧ Ev (fun k => impl_BestStowage.f k R h l) (r, m, b) ∧ r.length ≤ 1048576 := by
  unfold spec_BestStowage.f impl_BestStowage.f
  have hg := st_spec R h l (by omega)
  cases hk : okSt R h l
  · rw [hk] at hg
    exact ⟨[], 0, false, Ev.bind hg (ev_neg (by simp) (ev_const rfl)), ev_call (show impl_IsValidStowage.f R h l = some false by rw [show impl_IsValidStowage.f R h l = some (okSt R h l) from rfl, hk]) (ev_neg (by simp) (ev_const rfl)), by simp⟩
  · rw [hk] at hg
    have hk2 := hk
    unfold okSt at hk2
    simp only [Bool.and_eq_true, inr_iff, decide_eq_true_eq] at hk2
    obtain ⟨⟨r1, r5⟩, ⟨b1, b4⟩, h7, hc, _⟩ := hk2
    obtain ⟨n, rfl⟩ := Int.eq_ofNat_of_zero_le (show 0 ≤ R by omega)
    have hn5 : 1 ≤ n ∧ n ≤ 5 := by omega
    have h7n : l.length ≤ 7 := by omega
    have hl0 : low h (tabOf n []) = true := by
      refine List.all_eq_true.mpr fun r hr => ?_
      rw [List.eq_of_mem_replicate (show r ∈ List.replicate n [] from hr)]; exact decide_eq_true (by simp; omega)
    have e1 := spec_ev hn5 ⟨b1, b4⟩ h7n l.length [] (by simp) rfl hl0
    have e2 := go_ev hn5 ⟨b1, b4⟩ h7n hk l.length [] ([], -1) (by simp) rfl
    rw [if_pos hl0] at e2
    have e3 : merge ([], -1) (sB n h l l.length []) = sB n h l l.length [] := by
      unfold merge
      rcases sB_two n h l l.length [] with h1 | h1
      · rw [h1]; simp
      · rw [if_pos ⟨h1, .inl (by decide)⟩]
    rw [e3] at e2
    have hlen := sB_len n h l l.length []
    refine ⟨(sB n h l l.length []).1, (sB n h l l.length []).2, true, Ev.bind hg (ev_pos rfl (Ev.bind e1 (ev_const rfl))), ev_call (show impl_IsValidStowage.f (n : Int) h l = some true by rw [show impl_IsValidStowage.f (n : Int) h l = some (okSt n h l) from rfl, hk]) (ev_pos rfl (ev_pos ⟨by omega, by omega, by omega⟩ ?_)), by simp at hlen; omega⟩
    rw [Int.toNat_natCast]
    exact Ev.bind e2 (ev_const rfl)
end Go.Proofs.Ytbcklegbkdjlpaa.UB
