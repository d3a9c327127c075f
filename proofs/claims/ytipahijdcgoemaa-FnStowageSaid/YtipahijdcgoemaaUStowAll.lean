/- UStowA, UStowB, UStowC, as one text. -/
import Derived.Test.YtipahijdcgoemaaPx0
import Derived.Test.YtipahijdcgoemaaPx1
import Derived.Test.YtipahijdcgoemaaPx10
import Derived.Test.YtipahijdcgoemaaPx11
import Derived.Test.YtipahijdcgoemaaPx12
import Derived.Test.YtipahijdcgoemaaPx13
import Derived.Test.YtipahijdcgoemaaPx14
import Derived.Test.YtipahijdcgoemaaPx15
import Derived.Test.YtipahijdcgoemaaPx16
import Derived.Test.YtipahijdcgoemaaPx17
import Derived.Test.YtipahijdcgoemaaPx19
import Derived.Test.YtipahijdcgoemaaPx20
import Derived.Test.YtipahijdcgoemaaPx21
import Derived.Test.YtipahijdcgoemaaPx22
import Derived.Test.YtipahijdcgoemaaPx23
import Derived.Test.YtipahijdcgoemaaPx24
import Derived.Test.YtipahijdcgoemaaPx25
import Derived.Test.YtipahijdcgoemaaPx26
import Derived.Test.YtipahijdcgoemaaPx27
import Derived.Test.YtipahijdcgoemaaPx28
import Derived.Test.YtipahijdcgoemaaPx4
import Derived.Test.YtipahijdcgoemaaPx5
import Derived.Test.YtipahijdcgoemaaPx8
import Derived.Test.YtipahijdcgoemaaPx9
import Derived.Test.YtipahijdcgoemaaU
import Derived.Laws.BitsLemmas
import Derived.Sort.LotA
namespace Go.Proofs.Ytipahijdcgoemaa.UT
open Go.RowKit Go.Proofs.YtipahijdcgoemaaW.PrintWords Go.Proofs.YtipahijdcgoemaaW.PrintMore Go.Proofs.Ytipahijdcgoemaa.P Go.Proofs.Ytipahijdcgoemaa.U
set_option linter.unusedVariables false

theorem rd_l1 (l : List (List Int)) (i : Nat) (h : i < l.length) : rd_L2 l (i : Int) = l[i] := by
  unfold rd_L2
  rw [Int.toNat_natCast]
  exact getD_at l i _ h
theorem in_spec (a b c : Int) : spec_l1In.f a b c = some (inr a b c) := by
  unfold spec_l1In.f inr
  by_cases h : b ≤ a <;> simp [h]
theorem has_l (l : List Int) (v : Int) (hn : l.length ≤ 9223372036854775807) : ∀ d i, i + d = l.length → Ev (fun k => spec_l1Has.l0 k l v (i : Int)) ((l.drop i).contains v) := by
  intro d
  induction d with
  | zero =>
    intro i hi
    refine Ev.step (fun k => by simp only [spec_l1Has.l0]; rfl) (ev_neg (by omega) (ev_const ?_))
    rw [List.drop_of_length_le (by omega)]; rfl
  | succ d ih =>
    intro i hi
    have hlt : i < l.length := by omega
    refine Ev.step (fun k => by simp only [spec_l1Has.l0]; rfl) ?_
    refine ev_pos (by omega) (ev_pos (by omega) ?_)
    rw [rd_at l i hlt, wsucc hlt hn, List.drop_eq_getElem_cons hlt, List.contains_cons]
    by_cases e : l[i] = v
    · exact ev_eq (ev_pos e (ev_const rfl)) (by simp [e])
    · exact ev_eq (ev_neg e (ih (i + 1) (by omega))) (by simp [Ne.symm e])
theorem has_ev (l : List Int) (v : Int) (hn : l.length ≤ 9223372036854775807) : Ev (fun k => spec_l1Has.f k l v) (l.contains v) := by
  unfold spec_l1Has.f
  exact has_l l v hn l.length 0 (by omega)
end Go.Proofs.Ytipahijdcgoemaa.UT
namespace Go.Proofs.Ytipahijdcgoemaa.UB
open Go.RowKit Go.Proofs.YtipahijdcgoemaaW.PrintWords Go.Proofs.YtipahijdcgoemaaW.PrintMore Go.Proofs.Ytipahijdcgoemaa.P Go.Proofs.Ytipahijdcgoemaa.U Go.Proofs.Ytipahijdcgoemaa.UT
set_option linter.unusedVariables false

def okBay (h : Int) (l : List (List Int)) : Bool := inr h 1 4 && (inr (l.length : Int) 1 5 && (chkRows h l []).isSome)
theorem contains_rev (s : List Int) (n : Int) : s.reverse.contains n = s.contains n := by
  rw [Bool.eq_iff_iff]; simp
/-- The reference's loops: what is left of the check. -/
theorem good_l (h : Int) (l : List (List Int)) (hn : l.length ≤ 9223372036854775807) (hx : ∀ x, x ∈ l → x.length ≤ 1048576) : ∀ d i (s : List Int), i + d = l.length → s.length ≤ i * 1048576 → l.length ≤ 1048576 →
    Ev (fun k => spec_l9Good.l0 k s.reverse (i : Int) h l) ((chkRows h (l.drop i) s).isSome) := by
  intro d
  induction d with
  | zero =>
    intro i s hi hs _
    refine Ev.step (fun k => by simp only [spec_l9Good.l0]; rfl) ?_
    refine ev_neg (by omega) (ev_const ?_)
    rw [List.drop_of_length_le (by omega)]; rfl
  | succ d ih =>
    intro i s hi hs hll
    have hlt : i < l.length := by omega
    refine Ev.step (fun k => by simp only [spec_l9Good.l0]; rfl) ?_
    refine ev_pos (by omega) (ev_pos (by omega) ?_)
    rw [rd_l1 l i hlt, List.drop_eq_getElem_cons hlt]
    have hxi := hx _ (List.getElem_mem hlt)
    unfold chkRows
    by_cases hc : (l[i].length : Int) ≤ h
    · rw [if_pos hc]
      refine ev_neg (by omega) ?_
      have inner : ∀ e j (s : List Int), j + e = l[i].length → s.length ≤ i * 1048576 + j → Ev (fun k => spec_l9Good.l1 k s.reverse (i : Int) (j : Int) h l) (((chkRow (l[i].drop j) s).bind (chkRows h (l.drop (i + 1)))).isSome) := by
        intro e
        induction e with
        | zero =>
          intro j s hj hs
          refine Ev.step (fun k => by simp only [spec_l9Good.l1]; rfl) ?_
          refine ev_pos (by omega) (ev_pos (by omega) ?_)
          rw [rd_l1 l i hlt, wsucc hlt hn]
          refine ev_neg (by omega) ?_
          rw [List.drop_of_length_le (by omega)]
          exact ih (i + 1) s (by omega) (by omega) hll
        | succ e ihe =>
          intro j s hj hs
          have hjt : j < l[i].length := by omega
          refine Ev.step (fun k => by simp only [spec_l9Good.l1]; rfl) ?_
          refine ev_pos (by omega) (ev_pos (by omega) ?_)
          rw [rd_l1 l i hlt, rd_at _ j hjt, wsucc hjt (by omega), List.drop_eq_getElem_cons hjt]
          refine ev_pos (by omega) (ev_pos (by omega) ?_)
          refine ev_call (in_spec _ _ _) ?_
          cases h1 : inr l[i][j] 1 99
          · exact ev_eq (ev_neg (by simp) (ev_const rfl)) (by rw [chkRow_bad (by rw [h1]; rfl)]; rfl)
          refine ev_pos rfl ?_
          have hh := has_ev s.reverse l[i][j] (by rw [List.length_reverse]; omega)
          rw [contains_rev] at hh
          refine Ev.bind hh ?_
          cases h2 : s.contains l[i][j]
          · refine ev_neg (by simp) (ev_pos (by rw [List.length_reverse]; omega) ?_)
            rw [chkRow_ok (by rw [h1, h2]; rfl)]
            have e2 := ihe (j + 1) (l[i][j] :: s) (by omega) (by rw [List.length_cons]; omega)
            rw [List.reverse_cons] at e2
            exact e2
          · exact ev_eq (ev_pos rfl (ev_const rfl)) (by rw [chkRow_bad (by rw [h1, h2]; rfl)]; rfl)
      exact inner l[i].length 0 s (by omega) (Nat.le_trans hs (Nat.le_add_right _ _))
    · rw [if_neg hc]
      exact ev_pos (by omega) (ev_const rfl)
theorem good_spec (h : Int) (l : List (List Int)) (hn : l.length ≤ 1048576) (hx : ∀ x, x ∈ l → x.length ≤ 1048576) : Ev (fun k => spec_l9Good.f k h l) (okBay h l) := by
  unfold spec_l9Good.f okBay
  refine ev_call (in_spec _ _ _) ?_
  cases h1 : inr h 1 4
  · refine ev_neg (by simp) ?_
    refine Ev.step (fun k => by simp only [spec_l9Good.j0]; rfl) ?_
    exact ev_pos (by simp) (ev_const rfl)
  refine ev_pos rfl (ev_call (in_spec _ _ _) ?_)
  cases h2 : inr (l.length : Int) 1 5
  · refine Ev.step (fun k => by simp only [spec_l9Good.j0]; rfl) ?_
    exact ev_pos (by simp) (ev_const rfl)
  · refine Ev.step (fun k => by simp only [spec_l9Good.j0]; rfl) ?_
    exact ev_neg (by simp) (good_l h l (by omega) hx l.length 0 [] (by omega) (by simp) hn)
end Go.Proofs.Ytipahijdcgoemaa.UB
namespace Go.Proofs.Ytipahijdcgoemaa.UB
open Go.RowKit Go.Proofs.YtipahijdcgoemaaW.PrintWords Go.Proofs.YtipahijdcgoemaaW.PrintMore Go.Proofs.Ytipahijdcgoemaa.P Go.Proofs.Ytipahijdcgoemaa.U Go.Proofs.Ytipahijdcgoemaa.UT
set_option linter.unusedVariables false

theorem in_impl (a b c : Int) : impl_within.f a b c = some (inr a b c) := by
  unfold impl_within.f inr
  by_cases h : b ≤ a <;> simp [h]
theorem all_not_any (p : Int → Bool) : ∀ l : List Int, l.all p = !(l.any fun x => !p x)
  | [] => rfl
  | x :: l => by rw [List.all_cons, List.any_cons, all_not_any p l]; cases p x <;> simp
/-! Stowages. -/
theorem ports_l (a b : Int) (l : List Int) (hn : l.length ≤ 9223372036854775807) : ∀ d i, i + d = l.length → Ev (fun k => spec_l10Good.l0 k (i : Int) a b l) ((l.drop i).all (fun x => inr x 1 9)) := by
  intro d
  induction d with
  | zero =>
    intro i hi
    refine Ev.step (fun k => by simp only [spec_l10Good.l0]; rfl) ?_
    refine ev_neg (by omega) (ev_const ?_)
    rw [List.drop_of_length_le (by omega)]; simp
  | succ d ih =>
    intro i hi
    have hlt : i < l.length := by omega
    refine Ev.step (fun k => by simp only [spec_l10Good.l0]; rfl) ?_
    rw [rd_at l i hlt, wsucc hlt hn, List.drop_eq_getElem_cons hlt, List.all_cons]
    refine ev_pos (by omega) (ev_pos (by omega) (ev_call (in_spec _ _ _) ?_))
    cases h : inr l[i] 1 9
    · exact ev_neg (by simp) (ev_const (by simp))
    · exact ev_eq (ev_pos rfl (ih (i + 1) (by omega))) (by simp)
theorem st_spec (a b : Int) (l : List Int) (hn : l.length ≤ 9223372036854775807) : Ev (fun k => spec_l10Good.f k a b l) (okSt a b l) := by
  unfold spec_l10Good.f okSt
  have fs : Ev (fun k => spec_l10Good.j0 k true a b l) false := by
    refine Ev.step (fun k => by simp only [spec_l10Good.j0]; rfl) ?_
    exact ev_pos (by simp) (ev_const rfl)
  refine ev_call (in_spec _ _ _) ?_
  cases h1 : inr a 1 5
  · exact ev_neg (by simp) fs
  refine ev_pos rfl (ev_call (in_spec _ _ _) ?_)
  cases h2 : inr b 1 4
  · exact ev_neg (by simp) fs
  refine ev_pos rfl ?_
  have hp := impl_IsValidStowage.prod h1 h2
  rw [hp]
  by_cases h3 : (l.length : Int) ≤ 7
  · refine ev_neg (by omega) ?_
    rw [decide_eq_true h3]
    by_cases h4 : (l.length : Int) ≤ a * b
    · rw [decide_eq_true h4]
      refine Ev.step (fun k => by simp only [spec_l10Good.j0]; rfl) ?_
      refine ev_neg (by simp; omega) ?_
      exact ev_eq (ports_l a b l hn l.length 0 (by omega)) (by rw [List.drop_zero, all_not_any]; simp)
    · rw [decide_eq_false h4]
      refine Ev.step (fun k => by simp only [spec_l10Good.j0]; rfl) ?_
      exact ev_pos (by simp; omega) (ev_const (by simp))
  · rw [decide_eq_false h3]
    exact ev_eq (ev_pos (by omega) fs) (by simp)
end Go.Proofs.Ytipahijdcgoemaa.UB
namespace Go.Proofs.Ytipahijdcgoemaa.US
set_option linter.unusedVariables false
/-- A number put into a rising list, once. -/
def put : List Int → Int → List Int
  | [], n => [n]
  | x :: l, n => if x < n then x :: put l n else if x = n then x :: l else n :: x :: l
theorem put_mem (n y : Int) : ∀ (l : List Int), y ∈ put l n ↔ y = n ∨ y ∈ l
  | [] => by simp [put]
  | x :: l => by
    unfold put
    split
    · rw [List.mem_cons, put_mem n y l, List.mem_cons]; grind
    · split
      · rename_i h; subst h; simp
      · simp
theorem put_rising (n : Int) : ∀ (l : List Int), l.Pairwise (· < ·) → (put l n).Pairwise (· < ·)
  | [], _ => by simp [put]
  | x :: l, h => by
    obtain ⟨h1, h2⟩ := List.pairwise_cons.mp h
    unfold put
    split
    · rename_i hx
      refine List.pairwise_cons.mpr ⟨fun y hy => ?_, put_rising n l h2⟩
      rcases (put_mem n y l).mp hy with rfl | hy
      · exact hx
      · exact h1 y hy
    · split
      · exact h
      · rename_i hx hn
        refine List.pairwise_cons.mpr ⟨fun y hy => ?_, h⟩
        rcases List.mem_cons.mp hy with rfl | hy
        · omega
        · have := h1 y hy; omega
theorem put_len (n : Int) : ∀ (l : List Int), (put l n).length ≤ l.length + 1
  | [] => by simp [put]
  | x :: l => by
    unfold put
    split
    · rw [List.length_cons, List.length_cons]; have := put_len n l; omega
    · split <;> simp
theorem eq_of_mem : ∀ (a b : List Int), a.Pairwise (· < ·) → b.Pairwise (· < ·) → (∀ x, x ∈ a ↔ x ∈ b) → a = b
  | [], [], _, _, _ => rfl
  | [], y :: b, _, _, h => by have := (h y).mpr List.mem_cons_self; cases this
  | x :: a, [], _, _, h => by have := (h x).mp List.mem_cons_self; cases this
  | x :: a, y :: b, ha, hb, h => by
    obtain ⟨a1, a2⟩ := List.pairwise_cons.mp ha
    obtain ⟨b1, b2⟩ := List.pairwise_cons.mp hb
    have hxy : x = y := by
      rcases List.mem_cons.mp ((h x).mp List.mem_cons_self) with e | hx
      · exact e
      · rcases List.mem_cons.mp ((h y).mpr List.mem_cons_self) with e | hy
        · exact e.symm
        · have := b1 x hx; have := a1 y hy; omega
    subst hxy
    rw [eq_of_mem a b a2 b2 (fun z => ?_)]
    constructor
    · intro hz
      rcases List.mem_cons.mp ((h z).mp (List.mem_cons_of_mem _ hz)) with rfl | hz2
      · have := a1 z hz; omega
      · exact hz2
    · intro hz
      rcases List.mem_cons.mp ((h z).mpr (List.mem_cons_of_mem _ hz)) with rfl | hz2
      · have := b1 z hz; omega
      · exact hz2
theorem sort_rising (l : List Int) (h : l.Nodup) : (l.mergeSort fun x y => decide (x ≤ y)).Pairwise (· < ·) := by
  have h1 := List.pairwise_mergeSort (le := fun (x y : Int) => decide (x ≤ y)) (fun a b c h1 h2 => by simp at *; omega) (fun a b => by simp; omega) l
  have h2 : (l.mergeSort fun x y => decide (x ≤ y)).Nodup := ((List.mergeSort_perm l _).nodup_iff).mpr h
  exact (h1.and h2).imp (fun {a b} hab => by
    have h3 : a ≤ b := of_decide_eq_true hab.1
    have h4 : a ≠ b := hab.2
    omega)
/-- Numbers put one behind the other. -/
def puts : List Int → List Int → List Int
  | acc, [] => acc
  | acc, n :: l => puts (put acc n) l
theorem puts_mem (y : Int) : ∀ (l acc : List Int), y ∈ puts acc l ↔ y ∈ acc ∨ y ∈ l
  | [], acc => by simp [puts]
  | n :: l, acc => by rw [puts, puts_mem y l, put_mem, List.mem_cons]; grind
theorem puts_rising : ∀ (l acc : List Int), acc.Pairwise (· < ·) → (puts acc l).Pairwise (· < ·)
  | [], acc, h => h
  | n :: l, acc, h => puts_rising l _ (put_rising n acc h)
theorem puts_app : ∀ (a b acc : List Int), puts acc (a ++ b) = puts (puts acc a) b
  | [], b, acc => rfl
  | n :: a, b, acc => by rw [List.cons_append, puts, puts_app a b]; rfl
theorem puts_len : ∀ (l acc : List Int), (puts acc l).length ≤ acc.length + l.length
  | [], acc => by simp [puts]
  | n :: l, acc => by
    rw [puts, List.length_cons]
    have h1 := puts_len l (put acc n)
    have h2 := put_len n acc
    omega
theorem sort_puts (l : List Int) (h : l.Nodup) : (l.mergeSort fun x y => decide (x ≤ y)) = puts [] l :=
  eq_of_mem _ _ (sort_rising l h) (puts_rising l [] List.Pairwise.nil) (fun x => by rw [List.mem_mergeSort, puts_mem]; simp)
/-- Where a number is put: behind the smaller ones. -/
def lead (n : Int) : List Int → Nat
  | [] => 0
  | x :: l => if x < n then lead n l + 1 else 0
theorem lead_le (n : Int) : ∀ (l : List Int), lead n l ≤ l.length
  | [] => Nat.le_refl _
  | x :: l => by
    unfold lead
    split
    · rw [List.length_cons]; have := lead_le n l; omega
    · simp
theorem put_eq (n : Int) : ∀ (l : List Int), put l n = if l[lead n l]? = some n then l else l.take (lead n l) ++ [n] ++ l.drop (lead n l)
  | [] => by simp [put, lead]
  | x :: l => by
    unfold put lead
    by_cases h : x < n
    · rw [if_pos h, if_pos h, put_eq n l, List.getElem?_cons_succ]
      split
      · rfl
      · simp
    · rw [if_neg h, if_neg h]
      by_cases h2 : x = n
      · subst h2; simp
      · rw [if_neg h2, if_neg (by simp [h2])]; simp

/-! A valid table's numbers are each there once. -/
open Go.Proofs.Ytipahijdcgoemaa.U
theorem chkRow_once : ∀ (l s t : List Int), chkRow l s = some t → (∀ x, x ∈ t ↔ x ∈ s ∨ x ∈ l) ∧ l.Nodup ∧ ∀ x, x ∈ l → ¬ x ∈ s
  | [], s, t, h => by injection h with h; subst h; simp
  | n :: l, s, t, h => by
    unfold chkRow at h
    split at h
    · rename_i hc
      rw [Bool.and_eq_true] at hc
      have hn : ¬ n ∈ s := by simpa using hc.2
      obtain ⟨h1, h2, h3⟩ := chkRow_once l (n :: s) t h
      refine ⟨fun x => by rw [h1, List.mem_cons, List.mem_cons]; grind, List.nodup_cons.mpr ⟨fun hm => h3 n hm List.mem_cons_self, h2⟩, fun x hx hs => ?_⟩
      rcases List.mem_cons.mp hx with rfl | hx
      · exact hn hs
      · exact h3 x hx (List.mem_cons_of_mem _ hs)
    · cases h
theorem chkRows_once (cap : Int) : ∀ (l : List (List Int)) (s t : List Int), chkRows cap l s = some t → (∀ x, x ∈ t ↔ x ∈ s ∨ x ∈ l.flatten) ∧ l.flatten.Nodup ∧ ∀ x, x ∈ l.flatten → ¬ x ∈ s
  | [], s, t, h => by injection h with h; subst h; simp
  | r :: l, s, t, h => by
    unfold chkRows at h
    split at h
    · cases h1 : chkRow r s with
      | none => rw [h1] at h; cases h
      | some u =>
        rw [h1] at h
        obtain ⟨a1, a2, a3⟩ := chkRow_once r s u h1
        obtain ⟨b1, b2, b3⟩ := chkRows_once cap l u t h
        rw [List.flatten_cons]
        refine ⟨fun x => by rw [b1, a1, List.mem_append]; grind, List.nodup_append.mpr ⟨a2, b2, fun x hx y hy e => ?_⟩, fun x hx hs => ?_⟩
        · subst e; exact b3 x hy ((a1 x).mpr (Or.inr hx))
        · rcases List.mem_append.mp hx with hx | hx
          · exact a3 x hx hs
          · exact b3 x hx ((a1 x).mpr (Or.inl hs))
    · cases h
end Go.Proofs.Ytipahijdcgoemaa.US
namespace Go.Proofs.Ytipahijdcgoemaa.UB
open Go.RowKit Go.Proofs.YtipahijdcgoemaaW.PrintWords Go.Proofs.YtipahijdcgoemaaW.PrintMore Go.Proofs.Ytipahijdcgoemaa.P Go.Proofs.Ytipahijdcgoemaa.U Go.Proofs.Ytipahijdcgoemaa.UT
set_option linter.unusedVariables false

theorem rdl_mem {l : List (List Int)} {s : Int} (h0 : 0 ≤ s) (h1 : s < (l.length : Int)) : rd_L2 l s ∈ l := by
  obtain ⟨n, rfl⟩ := Int.eq_ofNat_of_zero_le h0
  have h : n < l.length := by omega
  rw [show rd_L2 l (n : Int) = l[n] from rd_l1 l n h]
  exact List.getElem_mem h
/-! One number more on a stack. -/
def push (l : List (List Int)) (s n : Int) : List (List Int) := l.set s.toNat (rd_L2 l s ++ [n])
theorem push_len (l : List (List Int)) (s n : Int) : (push l s n).length = l.length := by simp [push]
theorem push_mem {l : List (List Int)} {s n : Int} {x : List Int} (h : x ∈ push l s n) : x ∈ l ∨ x = rd_L2 l s ++ [n] := List.mem_or_eq_of_mem_set h
theorem getD_out (l : List (List Int)) (j : Nat) (h : l.length ≤ j) : l.getD j [] = [] := by simp [List.getD, List.getElem?_eq_none h]
def fill (p : List Int) : Nat → Nat → List (List Int) → List (List Int)
  | 0, _, out => out
  | d + 1, i, out => fill p d (i + 1) (push out (p.getD i 0) ((i : Int) + 1))
theorem fill_len (p : List Int) : ∀ d i (out : List (List Int)), (fill p d i out).length = out.length
  | 0, _, _ => rfl
  | d + 1, i, out => by rw [fill, fill_len p d, push_len]
def rng (R : Int) (p : List Int) : Bool := p.all fun s => inr s 0 (R - 1)
def low (h : Int) (l : List (List Int)) : Bool := l.all fun r => decide ((r.length : Int) ≤ h)
/-- A row only grows. -/
theorem push_ge (l : List (List Int)) (s n : Int) (j : Nat) : (l.getD j []).length ≤ ((push l s n).getD j []).length := by
  unfold push
  by_cases hj : j < l.length
  · have hj2 : j < (l.set s.toNat (rd_L2 l s ++ [n])).length := by rw [List.length_set]; exact hj
    rw [getD_at _ _ _ hj, getD_at _ _ _ hj2, List.getElem_set]
    split
    · rename_i he
      have e : rd_L2 l s = l[j] := by
        unfold rd_L2
        rw [he]
        exact getD_at l j _ hj
      rw [e, List.length_append]; omega
    · exact Nat.le_refl _
  · rw [getD_out _ _ (by omega)]; simp
theorem fill_ge (p : List Int) (j : Nat) : ∀ d i (out : List (List Int)), (out.getD j []).length ≤ ((fill p d i out).getD j []).length
  | 0, _, _ => Nat.le_refl _
  | d + 1, i, out => by
    rw [fill]
    exact Nat.le_trans (push_ge out _ _ j) (fill_ge p j d (i + 1) _)
theorem low_at {h : Int} {l : List (List Int)} (hl : low h l = true) (j : Nat) (hj : j < l.length) : ((l.getD j []).length : Int) ≤ h := by
  rw [getD_at _ _ _ hj]
  exact of_decide_eq_true (List.all_eq_true.mp hl _ (List.getElem_mem hj))
/-- What the program's loop comes to. -/
theorem loop_impl (R h : Int) (ports p : List Int) (hR : R ≤ 5) (hh : h ≤ 4) (hp : p.length ≤ 7) : ∀ d i (out : List (List Int)), i + d = p.length → (out.length : Int) = R → low h out = true →
    Ev (fun k => impl_planBay.l0 k p (p.length : Int) (i : Int) R h ports h out) (if rng R (p.drop i) = true ∧ low h (fill p d i out) = true then (h, fill p d i out, true) else (0, [], false)) := by
  intro d
  induction d with
  | zero =>
    intro i out hi ho hl
    refine Ev.step (fun k => by simp only [impl_planBay.l0]; rfl) (ev_neg (by omega) (ev_const ?_))
    rw [List.drop_of_length_le (by omega), if_pos ⟨rfl, hl⟩]; rfl
  | succ d ih =>
    intro i out hi ho hl
    have hlt : i < p.length := by omega
    refine Ev.step (fun k => by simp only [impl_planBay.l0]; rfl) (ev_pos (by omega) (ev_pos (by omega) (ev_pos (by omega) ?_)))
    rw [rd_at p i hlt, wsucc hlt (by omega), wr (x := R - 1) (by omega) (by omega), List.drop_eq_getElem_cons hlt]
    refine ev_call (in_impl _ _ _) ?_
    unfold rng
    rw [List.all_cons]
    cases hk : inr p[i] 0 (R - 1)
    · rw [if_neg (by simp)]
      exact ev_neg (by simp) (ev_const rfl)
    · obtain ⟨h0, h1⟩ := inr_iff.mp hk
      have hlt2 : p[i].toNat < out.length := by omega
      have e : rd_L2 out p[i] = out.getD p[i].toNat [] := rfl
      have hb := low_at hl p[i].toNat hlt2
      unfold fill
      rw [getD_at p i 0 hlt, Bool.true_and]
      refine ev_pos rfl (ev_pos h0 (ev_pos (by omega) ?_))
      by_cases hc : ((rd_L2 out p[i]).length : Int) = h
      · refine ev_eq (ev_pos hc (ev_const rfl)) ?_
        rw [if_neg]
        rintro ⟨_, hf⟩
        have hlen : p[i].toNat < (fill p d (i + 1) (push out p[i] ((i : Int) + 1))).length := by rw [fill_len, push_len]; exact hlt2
        have h2 := low_at hf p[i].toNat hlen
        have h3 := fill_ge p p[i].toNat d (i + 1) (push out p[i] ((i : Int) + 1))
        have h4 : ((push out p[i] ((i : Int) + 1)).getD p[i].toNat []).length = (rd_L2 out p[i]).length + 1 := by
          unfold push
          rw [set_getD _ _ _ hlt2, List.length_append, List.length_singleton]
        omega
      · rw [e] at hc
        have hlow : low h (push out p[i] ((i : Int) + 1)) = true := by
          refine List.all_eq_true.mpr fun r hr => decide_eq_true ?_
          rcases push_mem hr with hr | rfl
          · exact of_decide_eq_true (List.all_eq_true.mp hl _ hr)
          · rw [List.length_append, List.length_singleton, e]; omega
        have hi2 := ih (i + 1) (push out p[i] ((i : Int) + 1)) (by omega) (by rw [push_len]; exact ho) hlow
        refine ev_neg (by rw [e]; exact hc) (ev_pos (by rw [e]; omega) ?_)
        have e2 : ((i + 1 : Nat) : Int) = (i : Int) + 1 := by omega
        rw [e2] at hi2 ⊢
        exact hi2
/-- The reference's bay. -/
theorem bay1 (h : Int) (n : Nat) (p : List Int) (hn : n ≤ 5) (hp : p.length ≤ 1048576) (hr : rng n p = true) : ∀ d i (out : List (List Int)), i + d = p.length → out.length = n → (∀ x, x ∈ out → x.length ≤ i) →
    Ev (fun k => spec_l10Bay.l1 k p (i : Int) h out) (h, fill p d i out) := by
  intro d
  induction d with
  | zero =>
    intro i out hi ho hx
    exact Ev.step (fun k => by simp only [spec_l10Bay.l1]; rfl) (ev_neg (by omega) (ev_const rfl))
  | succ d ih =>
    intro i out hi ho hx
    have hlt : i < p.length := by omega
    obtain ⟨h0, h1⟩ := inr_iff.mp (List.all_eq_true.mp hr p[i] (List.getElem_mem hlt))
    have hm := hx _ (rdl_mem (l := out) h0 (by omega))
    refine Ev.step (fun k => by simp only [spec_l10Bay.l1]; rfl) (ev_pos (by omega) (ev_pos (by omega) ?_))
    rw [rd_at p i hlt, wsucc hlt (by omega)]
    refine ev_pos h0 (ev_pos (by omega) (ev_pos (by omega) ?_))
    unfold fill
    rw [getD_at p i 0 hlt]
    have hi2 := ih (i + 1) (push out p[i] ((i : Int) + 1)) (by omega) (by rw [push_len]; exact ho) (fun x hx2 => by
      rcases push_mem hx2 with hx3 | rfl
      · have := hx x hx3; omega
      · rw [List.length_append, List.length_singleton]; omega)
    have e2 : ((i + 1 : Nat) : Int) = (i : Int) + 1 := by omega
    rw [e2] at hi2 ⊢
    exact hi2
theorem bay0 (h : Int) (ports : List Int) (n : Nat) (p : List Int) (hn : n ≤ 5) (hp : p.length ≤ 1048576) (hr : rng n p = true) : ∀ d j, j + d = n →
    Ev (fun k => spec_l10Bay.l0 k p (j : Int) (n : Int) h ports h (List.replicate j [])) (h, fill p p.length 0 (List.replicate n [])) := by
  intro d
  induction d with
  | zero =>
    intro j hj
    refine Ev.step (fun k => by simp only [spec_l10Bay.l0]; rfl) (ev_neg (by omega) ?_)
    rw [show j = n by omega]
    exact bay1 h n p hn hp hr p.length 0 _ (by omega) (by simp) (fun x hx => by rw [List.eq_of_mem_replicate hx]; simp)
  | succ d ih =>
    intro j hj
    refine Ev.step (fun k => by simp only [spec_l10Bay.l0]; rfl) (ev_pos (by omega) (ev_pos (by simp; omega) ?_))
    rw [wsucc (n := 6) (by omega) (by omega)]
    have hi2 := ih (j + 1) (by omega)
    rw [List.replicate_succ'] at hi2
    exact hi2
theorem bay_spec (h : Int) (ports : List Int) (n : Nat) (p : List Int) (hn : n ≤ 5) (hp : p.length ≤ 1048576) (hr : rng n p = true) : Ev (fun k => spec_l10Bay.f k (n : Int) h ports p) (h, fill p p.length 0 (List.replicate n [])) := by
  unfold spec_l10Bay.f
  exact bay0 h ports n p hn hp hr n 0 (by omega)

/-! The bay's numbers: each once. -/
theorem flat_set : ∀ (l : List (List Int)) (k : Nat) (h : k < l.length) (n : Int), ((l.set k (l[k] ++ [n])).flatten).Perm (n :: l.flatten)
  | x :: l, 0, h, n => by
    rw [List.set_cons_zero, List.flatten_cons, List.flatten_cons, List.getElem_cons_zero, List.append_assoc]
    exact List.perm_middle
  | x :: l, k + 1, h, n => by
    rw [List.set_cons_succ, List.flatten_cons, List.flatten_cons, List.getElem_cons_succ]
    exact ((flat_set l k (by simpa using h) n).append_left x).trans List.perm_middle
theorem fill_once (n : Nat) (p : List Int) (hr : rng n p = true) : ∀ d i (out : List (List Int)), i + d = p.length → out.length = n → out.flatten.Nodup → (∀ x, x ∈ out.flatten → 1 ≤ x ∧ x ≤ (i : Int)) →
    (fill p d i out).flatten.Nodup ∧ ∀ x, x ∈ (fill p d i out).flatten → 1 ≤ x ∧ x ≤ (p.length : Int)
  | 0, i, out, hi, ho, h1, h2 => ⟨h1, fun x hx => by have := h2 x hx; unfold fill at hx; omega⟩
  | d + 1, i, out, hi, ho, h1, h2 => by
    have hlt : i < p.length := by omega
    obtain ⟨g0, g1⟩ := inr_iff.mp (List.all_eq_true.mp hr p[i] (List.getElem_mem hlt))
    have hk : p[i].toNat < out.length := by omega
    have e : push out p[i] ((i : Int) + 1) = out.set p[i].toNat (out[p[i].toNat] ++ [(i : Int) + 1]) := by
      unfold push rd_L2
      rw [getD_at _ _ _ hk]
    have hp := flat_set out p[i].toNat hk ((i : Int) + 1)
    rw [← e] at hp
    rw [fill, getD_at p i 0 hlt]
    refine fill_once n p hr d (i + 1) _ (by omega) (by rw [push_len]; exact ho) ((hp.nodup_iff).mpr (List.nodup_cons.mpr ⟨fun hm => by have := h2 _ hm; omega, h1⟩)) (fun x hx => ?_)
    rcases List.mem_cons.mp (hp.mem_iff.mp hx) with rfl | hx
    · omega
    · have := h2 x hx; omega
theorem fill_flat (n : Nat) (p : List Int) (hr : rng n p = true) : ∀ d i (out : List (List Int)), i + d = p.length → out.length = n → (fill p d i out).flatten.length = out.flatten.length + d
  | 0, i, out, hi, ho => rfl
  | d + 1, i, out, hi, ho => by
    have hlt : i < p.length := by omega
    obtain ⟨g0, g1⟩ := inr_iff.mp (List.all_eq_true.mp hr p[i] (List.getElem_mem hlt))
    have hk : p[i].toNat < out.length := by omega
    have e : push out p[i] ((i : Int) + 1) = out.set p[i].toNat (out[p[i].toNat] ++ [(i : Int) + 1]) := by
      unfold push rd_L2
      rw [getD_at _ _ _ hk]
    have hp := flat_set out p[i].toNat hk ((i : Int) + 1)
    rw [← e] at hp
    rw [fill, getD_at p i 0 hlt, fill_flat n p hr d (i + 1) _ (by omega) (by rw [push_len]; exact ho), hp.length_eq, List.length_cons]
    omega
theorem chkRow_full : ∀ (l s : List Int), (∀ x, x ∈ l → inr x 1 99 = true) → l.Nodup → (∀ x, x ∈ l → ¬ x ∈ s) → ∃ t, chkRow l s = some t ∧ ∀ x, x ∈ t ↔ x ∈ s ∨ x ∈ l
  | [], s, _, _, _ => ⟨s, rfl, fun x => by simp⟩
  | n :: l, s, h1, h2, h3 => by
    obtain ⟨g1, g2⟩ := List.nodup_cons.mp h2
    obtain ⟨t, ht, hm⟩ := chkRow_full l (n :: s) (fun x hx => h1 x (List.mem_cons_of_mem _ hx)) g2 (fun x hx hs => by
      rcases List.mem_cons.mp hs with rfl | hs
      · exact g1 hx
      · exact h3 x (List.mem_cons_of_mem _ hx) hs)
    refine ⟨t, ?_, fun x => by rw [hm, List.mem_cons, List.mem_cons]; grind⟩
    unfold chkRow
    have hc : s.contains n = false := by
      have := h3 n List.mem_cons_self
      simpa using this
    rw [h1 n List.mem_cons_self, hc]
    exact ht
theorem chkRows_full (h : Int) : ∀ (l : List (List Int)) (s : List Int), (∀ x, x ∈ l.flatten → inr x 1 99 = true) → l.flatten.Nodup → (∀ x, x ∈ l.flatten → ¬ x ∈ s) → (chkRows h l s).isSome = low h l
  | [], s, _, _, _ => rfl
  | r :: l, s, h1, h2, h3 => by
    rw [List.flatten_cons] at h1 h2 h3
    obtain ⟨n1, n2, n3⟩ := List.nodup_append.mp h2
    unfold chkRows low
    rw [List.all_cons]
    by_cases hc : (r.length : Int) ≤ h
    · rw [if_pos hc, decide_eq_true hc, Bool.true_and]
      obtain ⟨t, ht, hm⟩ := chkRow_full r s (fun x hx => h1 x (List.mem_append_left _ hx)) n1 (fun x hx => h3 x (List.mem_append_left _ hx))
      rw [ht]
      exact chkRows_full h l t (fun x hx => h1 x (List.mem_append_right _ hx)) n2 (fun x hx hs => by
        rcases (hm x).mp hs with hs | hs
        · exact h3 x (List.mem_append_right _ hx) hs
        · exact n3 x hs x hx rfl)
    · rw [if_neg hc, decide_eq_false hc]; rfl
theorem okBay_fill (h : Int) (hh : inr h 1 4 = true) (n : Nat) (hn : 1 ≤ n ∧ n ≤ 5) (p : List Int) (hp : p.length ≤ 7) (hr : rng n p = true) : okBay h (fill p p.length 0 (List.replicate n [])) = low h (fill p p.length 0 (List.replicate n [])) := by
  obtain ⟨g1, g2⟩ := fill_once n p hr p.length 0 (List.replicate n []) (by omega) (by simp) (by simp) (fun x hx => by simp at hx)
  unfold okBay
  rw [hh, fill_len, List.length_replicate, show inr (n : Int) 1 5 = true from inr_iff.mpr (by omega), Bool.true_and, Bool.true_and]
  exact chkRows_full h _ [] (fun x hx => inr_iff.mpr (by have := g2 x hx; omega)) g1 (fun x hx hs => by cases hs)
theorem plan_l (h : Int) (ports : List Int) (n : Nat) (p : List Int) (hn : n ≤ 5) (hp : p.length ≤ 1048576) : ∀ d i, i + d = p.length → rng n (p.take i) = true →
    ∀ r, (rng n p = false → r = false) → (rng n p = true → Ev (fun k => if (p.length : Int) = (ports.length : Int) then ((spec_l10Bay.f k (n : Int) h ports p).bind fun bt143 => ((spec_l9Good.f k bt143.1 bt143.2).bind fun t147 => (some t147))) else (some false)) r) →
    Ev (fun k => spec_l10Plan.l0 k p (i : Int) (n : Int) h ports) r := by
  intro d
  induction d with
  | zero =>
    intro i hi ht r hf hs
    refine Ev.step (fun k => by simp only [spec_l10Plan.l0]; rfl) (ev_neg (by omega) ?_)
    rw [List.take_of_length_le (by omega)] at ht
    exact hs ht
  | succ d ih =>
    intro i hi ht r hf hs
    have hlt : i < p.length := by omega
    refine Ev.step (fun k => by simp only [spec_l10Plan.l0]; rfl) (ev_pos (by omega) (ev_pos (by omega) ?_))
    rw [rd_at p i hlt, wsucc hlt (by omega), wr (x := (n : Int) - 1) (by omega) (by omega)]
    refine ev_call (in_spec _ _ _) ?_
    cases hk : inr p[i] 0 ((n : Int) - 1)
    · have hno : rng n p = false := by
        unfold rng
        rw [List.all_eq_false]
        exact ⟨p[i], List.getElem_mem hlt, by rw [hk]; simp⟩
      rw [hf hno]
      exact ev_neg (by simp) (ev_const rfl)
    · refine ev_pos rfl (ih (i + 1) (by omega) ?_ r hf hs)
      rw [List.take_succ_eq_append_getElem hlt]
      unfold rng at ht ⊢
      rw [List.all_append, ht]
      simp [hk]
/-- What both make of a plan: whether it is possible, and the bay. -/
def Parts (R h : Int) (l p : List Int) (ok : Bool) (b : List (List Int)) : Prop :=
  Ev (fun k => spec_l10Asked.f k R h l p) ok ∧ Ev (fun k => impl_planBay.f k R h l p) (if ok = true then (h, b, true) else (0, [], false)) ∧
  (ok = true → Ev (fun k => spec_l10Bay.f k R h l p) (h, b) ∧ b.flatten.Nodup ∧ (∀ x, x ∈ b.flatten → 1 ≤ x ∧ x ≤ (l.length : Int)) ∧ l.length ≤ 7 ∧ b.length ≤ 5 ∧ (∀ x, x ∈ b → x.length ≤ 4) ∧ (b.length : Int) = R ∧ okSt R h l = true ∧ b.flatten.length = l.length ∧ rng R p = true ∧ p.length = l.length ∧ b = fill p p.length 0 (List.replicate R.toNat []) ∧ low h b = true)
theorem plan_parts (R h : Int) (l : List Int) (hn : l.length ≤ 1048576) (p : List Int) (hp : p.length ≤ 1048576) : ∃ ok b, Parts R h l p ok b := by
  have hg := st_spec R h l (by omega)
  have no : Ev (fun k => impl_planBay.j0 k p true R h l) (0, [], false) := by
    refine Ev.step (fun k => by simp only [impl_planBay.j0]; rfl) ?_
    exact ev_pos trivial (ev_const rfl)
  have fail : Ev (fun k => (spec_l10Good.f k R h l).bind fun t149 => (if t149 = true then ((spec_l10Plan.f k R h l p).bind fun t150 => (some t150)) else (some false))) false → Ev (fun k => (impl_IsValidStowage.f R h l).bind fun t171 => (if t171 = true then (impl_planBay.j0 k p ((p.length : Int) != (l.length : Int)) R h l) else (impl_planBay.j0 k p true R h l))) (0, [], false) → ∃ ok b, Parts R h l p ok b := fun h1 h2 =>
    ⟨false, [], by unfold spec_l10Asked.f; exact h1, by unfold impl_planBay.f; exact h2, fun e => by cases e⟩
  cases hk : okSt R h l
  · rw [hk] at hg
    exact fail (Ev.bind hg (ev_neg (by simp) (ev_const rfl))) (ev_call (show impl_IsValidStowage.f R h l = some (okSt R h l) from rfl) (by rw [hk]; exact ev_neg (by simp) no))
  rw [hk] at hg
  have hk2 := hk
  unfold okSt at hk2
  simp only [Bool.and_eq_true, inr_iff] at hk2
  obtain ⟨⟨r1, r5⟩, ⟨b1, b4⟩, h7, _⟩ := hk2
  have h7 : (l.length : Int) ≤ 7 := of_decide_eq_true h7
  obtain ⟨n, rfl⟩ := Int.eq_ofNat_of_zero_le (show 0 ≤ R by omega)
  have hh : inr h 1 4 = true := inr_iff.mpr ⟨b1, b4⟩
  by_cases hc : p.length = l.length
  · have hp7 : p.length ≤ 7 := by omega
    have hneq : ((p.length : Int) != (l.length : Int)) = false := by rw [hc]; simp
    have hlow0 : low h (List.replicate n []) = true := by
      refine List.all_eq_true.mpr fun r hr => ?_
      rw [List.eq_of_mem_replicate hr]
      simp; omega
    have hi := loop_impl (n : Int) h l p (by omega) b4 hp7 p.length 0 (List.replicate n []) (by omega) (by simp) hlow0
    rw [List.drop_zero] at hi
    have himp : ∀ r, Ev (fun k => impl_planBay.l0 k p (p.length : Int) ((0 : Nat) : Int) (n : Int) h l h (List.replicate n [])) r → Ev (fun k => (impl_IsValidStowage.f (n : Int) h l).bind fun t171 => (if t171 = true then (impl_planBay.j0 k p ((p.length : Int) != (l.length : Int)) (n : Int) h l) else (impl_planBay.j0 k p true (n : Int) h l))) r := fun r hr => by
      refine ev_call (show impl_IsValidStowage.f (n : Int) h l = some (okSt n h l) from rfl) ?_
      rw [hk, hneq]
      refine ev_pos rfl (Ev.step (fun k => by simp only [impl_planBay.j0]; rfl) ?_)
      refine ev_neg (by simp) (ev_pos (by omega) (ev_pos (by omega) ?_))
      rw [Int.toNat_natCast]
      exact hr
    cases hr : rng n p
    · rw [if_neg (by rw [hr]; simp)] at hi
      refine fail (Ev.bind hg (ev_pos rfl (Ev.bind (a := false) ?_ (ev_const rfl)))) (himp _ hi)
      unfold spec_l10Plan.f
      exact plan_l h l n p (by omega) hp p.length 0 (by omega) (by simp [rng]) false (fun _ => rfl) (fun h2 => by rw [hr] at h2; cases h2)
    · have hb := bay_spec h l n p (by omega) hp hr
      have hsz : ∀ x, x ∈ fill p p.length 0 (List.replicate n []) → low h (fill p p.length 0 (List.replicate n [])) = true → x.length ≤ 4 := fun x hx hl => by
        have := of_decide_eq_true (List.all_eq_true.mp hl x hx); omega
      have hrow : ∀ d i (out : List (List Int)), (∀ x, x ∈ out → x.length ≤ i) → ∀ x, x ∈ fill p d i out → x.length ≤ i + d := by
        intro d
        induction d with
        | zero => intro i out ho x hx; have := ho x hx; omega
        | succ d ihd =>
          intro i out ho x hx
          rw [fill] at hx
          have := ihd (i + 1) _ (fun y hy => by
            rcases push_mem hy with hy | rfl
            · have := ho y hy; omega
            · rw [List.length_append, List.length_singleton]
              have : (rd_L2 out (p.getD i 0)).length ≤ i := by
                unfold rd_L2
                by_cases hq : (p.getD i 0).toNat < out.length
                · rw [getD_at _ _ _ hq]; exact ho _ (List.getElem_mem hq)
                · rw [getD_out _ _ (by omega)]; simp
              omega) x hx
          omega
      have hrows := hrow p.length 0 (List.replicate n []) (fun x hx => by rw [List.eq_of_mem_replicate hx]; simp)
      have hgood := good_spec h (fill p p.length 0 (List.replicate n [])) (by rw [fill_len, List.length_replicate]; omega) (fun x hx => by have := hrows x hx; omega)
      rw [okBay_fill h hh n (by omega) p hp7 hr] at hgood
      have hplan : Ev (fun k => spec_l10Plan.f k (n : Int) h l p) (low h (fill p p.length 0 (List.replicate n []))) := by
        unfold spec_l10Plan.f
        exact plan_l h l n p (by omega) hp p.length 0 (by omega) (by simp [rng]) _ (fun h2 => by rw [hr] at h2; cases h2) (fun _ => ev_pos (by omega) (Ev.bind hb (Ev.bind hgood (ev_const rfl))))
      cases hq : low h (fill p p.length 0 (List.replicate n []))
      · rw [hq] at hplan
        rw [if_neg (by rw [hq]; simp)] at hi
        exact fail (Ev.bind hg (ev_pos rfl (Ev.bind hplan (ev_const rfl)))) (himp _ hi)
      · rw [hq] at hplan
        rw [if_pos ⟨hr, hq⟩] at hi
        obtain ⟨f1, f2⟩ := fill_once n p hr p.length 0 (List.replicate n []) (by omega) (by simp) (by simp) (fun x hx => by simp at hx)
        exact ⟨true, fill p p.length 0 (List.replicate n []), by unfold spec_l10Asked.f; exact Ev.bind hg (ev_pos rfl (Ev.bind hplan (ev_const rfl))), by unfold impl_planBay.f; exact himp _ hi, fun _ => ⟨hb, f1, fun x hx => by have := f2 x hx; omega, by omega, by rw [fill_len, List.length_replicate]; omega, fun x hx => hsz x hx hq, by rw [fill_len, List.length_replicate], hk, by rw [fill_flat n p hr p.length 0 _ (by omega) (by simp)]; simp; omega, hr, hc, by rw [Int.toNat_natCast], hq⟩⟩
  · have hneq : ((p.length : Int) != (l.length : Int)) = true := by rw [bne_iff_ne]; omega
    refine fail (Ev.bind hg (ev_pos rfl (Ev.bind (a := false) ?_ (ev_const rfl)))) (ev_call (show impl_IsValidStowage.f (n : Int) h l = some (okSt n h l) from rfl) ?_)
    · unfold spec_l10Plan.f
      exact plan_l h l n p (by omega) hp p.length 0 (by omega) (by simp [rng]) false (fun _ => rfl) (fun _ => ev_neg (by omega) (ev_const rfl))
    · rw [hk, hneq]
      exact ev_pos rfl no
end Go.Proofs.Ytipahijdcgoemaa.UB
namespace Go.Proofs.Ytipahijdcgoemaa.US
open Go.RowKit Go.Proofs.YtipahijdcgoemaaW.PrintWords Go.Proofs.YtipahijdcgoemaaW.PrintMore Go.Proofs.Ytipahijdcgoemaa.P Go.Proofs.Ytipahijdcgoemaa.U Go.Proofs.Ytipahijdcgoemaa.UT
set_option linter.unusedVariables false

theorem lead_step (n : Int) : ∀ (l : List Int) (i : Nat) (hi : i < l.length), i ≤ lead n l → (l[i] < n → i + 1 ≤ lead n l) ∧ (¬ l[i] < n → lead n l = i)
  | x :: l, 0, hi, h => by
    unfold lead
    refine ⟨fun hx => ?_, fun hx => ?_⟩
    · rw [if_pos (show x < n from hx)]; omega
    · rw [if_neg (show ¬ x < n from hx)]
  | x :: l, i + 1, hi, h => by
    unfold lead at h ⊢
    by_cases hx : x < n
    · rw [if_pos hx] at h ⊢
      have := lead_step n l i (by simpa using hi) (by omega)
      exact ⟨fun h1 => by have := this.1 h1; omega, fun h1 => by have := this.2 h1; omega⟩
    · rw [if_neg hx] at h; omega
theorem put_l (l : List Int) (n : Int) (hl : l.length ≤ 1048576) : ∀ d i, i + d = l.length → i ≤ lead n l → Ev (fun k => spec_l1Put.l0 k l n (i : Int)) (put l n) := by
  have stop : ∀ (i : Nat), i ≤ l.length → lead n l = i → ¬ l[i]? = some n → put l n = l.take i ++ [n] ++ l.drop i := fun i _ h1 h2 => by rw [put_eq, h1, if_neg h2]
  intro d
  induction d with
  | zero =>
    intro i hi h
    have hle := lead_le n l
    refine Ev.step (fun k => by simp only [spec_l1Put.l0]; rfl) (ev_neg (by omega) (ev_const ?_))
    rw [stop i (by omega) (by omega) (by rw [List.getElem?_eq_none (by omega)]; simp)]
    simp only [Option.bind_some, List.nil_append, List.length_nil, List.length_append, List.length_take, List.length_drop, List.length_singleton, Int.toNat_natCast]
    rw [if_pos (by omega), if_pos (by omega), if_pos (by omega), if_pos (by omega), if_pos (by omega)]
  | succ d ih =>
    intro i hi h
    have hlt : i < l.length := by omega
    obtain ⟨s1, s2⟩ := lead_step n l i hlt h
    refine Ev.step (fun k => by simp only [spec_l1Put.l0]; rfl) (ev_pos (by omega) (ev_pos (by omega) ?_))
    rw [rd_at l i hlt, wsucc hlt (by omega)]
    by_cases hc : l[i] < n
    · exact ev_pos hc (ih (i + 1) (by omega) (s1 hc))
    · refine ev_neg hc ?_
      by_cases he : l[i] = n
      · refine ev_eq (ev_pos he (ev_const rfl)) ?_
        rw [put_eq, s2 hc, if_pos (by rw [List.getElem?_eq_getElem hlt, he])]
      · refine ev_neg he (ev_const ?_)
        rw [stop i (by omega) (s2 hc) (by rw [List.getElem?_eq_getElem hlt]; simpa using he)]
        simp only [Option.bind_some, List.nil_append, List.length_nil, List.length_append, List.length_take, List.length_drop, List.length_singleton, Int.toNat_natCast]
        rw [if_pos (by omega), if_pos (by omega), if_pos (by omega), if_pos (by omega)]
theorem put_ev (l : List Int) (n : Int) (hl : l.length ≤ 1048576) : Ev (fun k => spec_l1Put.f k l n) (put l n) := by
  unfold spec_l1Put.f
  exact put_l l n hl l.length 0 (by omega) (by omega)
end Go.Proofs.Ytipahijdcgoemaa.US
namespace Go.Proofs.Ytipahijdcgoemaa.UB
open Go.RowKit Go.Proofs.YtipahijdcgoemaaW.PrintWords Go.Proofs.YtipahijdcgoemaaW.PrintMore Go.Proofs.Ytipahijdcgoemaa.P Go.Proofs.Ytipahijdcgoemaa.U Go.Proofs.Ytipahijdcgoemaa.UT Go.Proofs.Ytipahijdcgoemaa.US
set_option linter.unusedVariables false

theorem put_idem (n : Int) : ∀ (l : List Int), put (put l n) n = put l n
  | [] => by simp [put]
  | x :: l => by
    by_cases h : x < n
    · have e : put (x :: l) n = x :: put l n := by rw [put, if_pos h]
      rw [e]
      rw [show put (x :: put l n) n = x :: put (put l n) n by rw [put, if_pos h], put_idem n l]
    · by_cases h2 : x = n
      · subst h2
        have e : put (x :: l) x = x :: l := by rw [put, if_neg h, if_pos rfl]
        rw [e, e]
      · have e : put (x :: l) n = n :: x :: l := by rw [put, if_neg h, if_neg h2]
        rw [e, put, if_neg (by omega), if_pos rfl]
theorem shR_sub (ports row : List Int) : ∀ d j, j + d = row.length → (shR ports row d j).Sublist (row.drop j)
  | 0, j, h => by unfold shR; exact List.nil_sublist _
  | d + 1, j, h => by
    have hlt : j < row.length := by omega
    unfold shR
    rw [List.drop_eq_getElem_cons hlt, getD_at _ _ _ hlt]
    have ih := shR_sub ports row d (j + 1) (by omega)
    split
    · exact ih.cons_cons _
    · rw [List.nil_append]; exact ih.cons _
theorem shA_sub (ports : List Int) : ∀ (l : List (List Int)), (shA ports l).Sublist l.flatten
  | [] => List.Sublist.refl _
  | r :: l => by
    unfold shA
    rw [List.flatten_cons]
    exact (shR_sub ports r r.length 0 (by omega)).append (shA_sub ports l)
theorem flat_len : ∀ (l : List (List Int)), (∀ x, x ∈ l → x.length ≤ 4) → l.flatten.length ≤ 4 * l.length
  | [], _ => Nat.le_refl _
  | r :: l, h => by
    have h2 := h r List.mem_cons_self
    have h3 := flat_len l (fun x hx => h x (List.mem_cons_of_mem _ hx))
    rw [List.flatten_cons, List.length_append, List.length_cons]; omega
abbrev pr (P row : List Int) (j : Nat) : Int → Bool := fun m => decide (P.getD (m - 1).toNat 0 < P.getD (row.getD j 0 - 1).toNat 0)
theorem sh_l2 {P : List Int} {l : List (List Int)} (hP : P.length ≤ 7) (R h c : Int) (i : Nat) (hi : i < l.length) (hn : l.length ≤ 5) (h4 : l[i].length ≤ 4) (hx : ∀ x, x ∈ l[i] → 1 ≤ x ∧ x ≤ (P.length : Int)) (j : Nat) (hj : j < l[i].length) (r : List Int) : ∀ d m (acc : List Int), m + d = j → acc.length + d ≤ 1048576 →
    Ev (fun k => spec_l10Shifted.l1 k (if ((l[i].take j).drop m).any (pr P l[i] j) = true then put acc l[i][j] else acc) (i : Int) ((j + 1 : Nat) : Int) R h P c l) r → Ev (fun k => spec_l10Shifted.l2 k acc (i : Int) (j : Int) (m : Int) R h P c l) r := by
  intro d
  induction d with
  | zero =>
    intro m acc hm ha he
    refine Ev.step (fun k => by simp only [spec_l10Shifted.l2]; rfl) (ev_neg (by omega) ?_)
    rw [wsucc hj (by omega)]
    rw [List.drop_of_length_le (by rw [List.length_take]; omega)] at he
    exact he
  | succ d ih =>
    intro m acc hm ha he
    have hmt : m < l[i].length := by omega
    have b1 := hx l[i][m] (List.getElem_mem hmt)
    have b2 := hx l[i][j] (List.getElem_mem hj)
    refine Ev.step (fun k => by simp only [spec_l10Shifted.l2]; rfl) ?_
    rw [rd_l1 l i hi, rd_at _ m hmt, rd_at _ j hj, wr (x := l[i][m] - 1) (by omega) (by omega), wr (x := l[i][j] - 1) (by omega) (by omega), wsucc hmt (by omega)]
    refine ev_pos (by omega) ?_
    refine ev_pos (by omega) ?_
    refine ev_pos (by omega) ?_
    refine ev_pos (by omega) ?_
    refine ev_pos (by omega) ?_
    refine ev_pos (by omega) ?_
    refine ev_pos (by omega) ?_
    refine ev_pos (by omega) ?_
    refine ev_pos (by omega) ?_
    refine ev_pos (by omega) ?_
    refine ev_pos (by omega) ?_
    have hmk : m < (l[i].take j).length := by rw [List.length_take]; omega
    have hd : (l[i].take j).drop m = l[i][m] :: (l[i].take j).drop (m + 1) := by rw [List.drop_eq_getElem_cons hmk, List.getElem_take]
    rw [hd, List.any_cons] at he
    have hp : pr P l[i] j l[i][m] = decide (rd P (l[i][m] - 1) < rd P (l[i][j] - 1)) := by
      unfold pr rd
      rw [getD_at _ _ _ hj]
    rw [hp] at he
    by_cases hc : rd P (l[i][m] - 1) < rd P (l[i][j] - 1)
    · rw [decide_eq_true hc, Bool.true_or, if_pos rfl] at he
      have hl := put_len l[i][j] acc
      refine ev_pos hc (Ev.bind (put_ev acc l[i][j] (by omega)) ?_)
      refine ih (m + 1) _ (by omega) (by omega) ?_
      rw [put_idem]
      split <;> exact he
    · rw [decide_eq_false hc, Bool.false_or] at he
      exact ev_neg hc (ih (m + 1) acc (by omega) (by omega) he)
theorem sh_l1 {P : List Int} {l : List (List Int)} (hP : P.length ≤ 7) (R h c : Int) (i : Nat) (hi : i < l.length) (hn : l.length ≤ 5) (h4 : l[i].length ≤ 4) (hx : ∀ x, x ∈ l[i] → 1 ≤ x ∧ x ≤ (P.length : Int)) (r : List Int) : ∀ d j (acc : List Int), j + d = l[i].length → acc.length ≤ 4 * i + j →
    Ev (fun k => spec_l10Shifted.l0 k (puts acc (shR P l[i] d j)) ((i + 1 : Nat) : Int) R h P c l) r → Ev (fun k => spec_l10Shifted.l1 k acc (i : Int) (j : Int) R h P c l) r := by
  intro d
  induction d with
  | zero =>
    intro j acc hj ha he
    refine Ev.step (fun k => by simp only [spec_l10Shifted.l1]; rfl) ?_
    rw [rd_l1 l i hi, wsucc hi (by omega)]
    refine ev_pos (by omega) (ev_pos (by omega) (ev_neg (by omega) ?_))
    exact he
  | succ d ih =>
    intro j acc hj ha he
    have hjt : j < l[i].length := by omega
    refine Ev.step (fun k => by simp only [spec_l10Shifted.l1]; rfl) ?_
    rw [rd_l1 l i hi]
    refine ev_pos (by omega) (ev_pos (by omega) (ev_pos (by omega) ?_))
    refine sh_l2 hP R h c i hi hn h4 hx j hjt r j 0 acc (by omega) (by omega) ?_
    rw [List.drop_zero]
    have hl := put_len l[i][j] acc
    unfold shR at he
    rw [getD_at _ _ _ hjt] at he
    change Ev _ r at he
    cases hb : shB P l[i] j
    · rw [hb, if_neg (by simp), List.nil_append] at he
      have hb2 : (l[i].take j).any (pr P l[i] j) = false := hb
      rw [hb2, if_neg (by simp)]
      exact ih (j + 1) acc (by omega) (by omega) he
    · rw [hb, if_pos rfl] at he
      have hb2 : (l[i].take j).any (pr P l[i] j) = true := hb
      rw [hb2, if_pos rfl]
      exact ih (j + 1) _ (by omega) (by omega) he
theorem sh_l0 {P : List Int} {l : List (List Int)} (hP : P.length ≤ 7) (R h c : Int) (hn : l.length ≤ 5) (h4 : ∀ x, x ∈ l → x.length ≤ 4) (hx : ∀ x, x ∈ l.flatten → 1 ≤ x ∧ x ≤ (P.length : Int)) : ∀ d i (acc : List Int), i + d = l.length → acc.length ≤ 4 * i →
    Ev (fun k => spec_l10Shifted.l0 k acc (i : Int) R h P c l) (puts acc (shA P (l.drop i))) := by
  intro d
  induction d with
  | zero =>
    intro i acc hi ha
    refine Ev.step (fun k => by simp only [spec_l10Shifted.l0]; rfl) (ev_neg (by omega) (ev_const ?_))
    rw [List.drop_of_length_le (by omega)]; rfl
  | succ d ih =>
    intro i acc hi ha
    have hlt : i < l.length := by omega
    have h4i := h4 _ (List.getElem_mem hlt)
    refine Ev.step (fun k => by simp only [spec_l10Shifted.l0]; rfl) (ev_pos (by omega) ?_)
    rw [List.drop_eq_getElem_cons hlt]
    refine sh_l1 hP R h c i hlt hn h4i (fun x hx2 => hx x (List.mem_flatten.mpr ⟨_, List.getElem_mem hlt, hx2⟩)) _ l[i].length 0 acc (by omega) (by omega) ?_
    have hl := puts_len (shR P l[i] l[i].length 0) acc
    have hl2 := shR_len P l[i] l[i].length 0
    have hh := ih (i + 1) (puts acc (shR P l[i] l[i].length 0)) (by omega) (by omega)
    unfold shA
    rw [puts_app]
    exact hh
theorem sh_spec {P : List Int} {l : List (List Int)} (hP : P.length ≤ 7) (R h c : Int) (hn : l.length ≤ 5) (h4 : ∀ x, x ∈ l → x.length ≤ 4) (hx : ∀ x, x ∈ l.flatten → 1 ≤ x ∧ x ≤ (P.length : Int)) : Ev (fun k => spec_l10Shifted.f k R h P c l) (puts [] (shA P l)) := by
  unfold spec_l10Shifted.f
  exact sh_l0 hP R h c hn h4 hx l.length 0 [] (by omega) (by simp)
theorem sh_impl {P : List Int} {l : List (List Int)} (R h c : Int) (hn : l.length ≤ 5) (h4 : ∀ x, x ∈ l → x.length ≤ 4) (hx : ∀ x, x ∈ l.flatten → 1 ≤ x ∧ x ≤ (P.length : Int)) (h1 : l.flatten.Nodup) : impl_shiftedBoxes.f R h P c l = some (puts [] (shA P l)) := by
  have hf := flat_len l h4
  have hok : shOk P l = true := by
    unfold shOk
    rw [Bool.and_eq_true]
    refine ⟨decide_eq_true (by omega), List.all_eq_true.mpr fun r hr => List.all_eq_true.mpr fun m hm => ?_⟩
    have := hx m (List.mem_flatten.mpr ⟨r, hr, hm⟩)
    rw [Bool.and_eq_true]
    exact ⟨decide_eq_true this.1, decide_eq_true this.2⟩
  unfold impl_shiftedBoxes.f
  rw [if_pos hok, sort_puts _ ((shA_sub P l).nodup h1)]
theorem sh_len {P : List Int} {l : List (List Int)} (hn : l.length ≤ 5) (h4 : ∀ x, x ∈ l → x.length ≤ 4) : (puts [] (shA P l)).length ≤ 20 := by
  have h1 := puts_len (shA P l) []
  have h2 := shA_len P l
  have h3 := flat_len l h4
  rw [List.length_nil] at h1
  omega
end Go.Proofs.Ytipahijdcgoemaa.UB
namespace Go.Proofs.Ytipahijdcgoemaa.UD
open Go.RowKit Go.Proofs.YtipahijdcgoemaaW.PrintWords Go.Proofs.YtipahijdcgoemaaW.PrintMore Go.Proofs.Ytipahijdcgoemaa.P Go.Proofs.Ytipahijdcgoemaa.U
set_option linter.unusedVariables false

def codeOk (c : List Int) : Prop := c.length ≤ 65536 ∧ ∀ x, x ∈ c → 0 ≤ x ∧ x ≤ 255
theorem wf_u8 {x : Int} (h : (Lit.int .u8 x).wf = true) : 0 ≤ x ∧ x ≤ 255 := by
  have h1 : (decide (IntKind.u8.min ≤ x) && decide (x ≤ IntKind.u8.max)) = true := h
  rw [Bool.and_eq_true, decide_eq_true_iff, decide_eq_true_iff] at h1
  exact h1
theorem wrap_u64 (n : Int) : IntKind.u64.wrap n = n % 18446744073709551616 := by simp [IntKind.wrap, IntKind.bits, IntKind.signed]
theorem u64_low (n : Int) : 0 ≤ wrap64 (Go.bits .and .u64 (IntKind.u64.wrap n / 1099511627776) 255) ∧ wrap64 (Go.bits .and .u64 (IntKind.u64.wrap n / 1099511627776) 255) ≤ 255 := by
  have h : IntKind.u64.wrap n = n % 18446744073709551616 := wrap_u64 n
  have e := bits_mask .u64 24 (by decide) (fun m h0 h1 => by rw [wrap_u64]; omega) 8 (by decide) (IntKind.u64.wrap n / 1099511627776) (by omega) (by omega)
  have e2 : Go.bits .and .u64 (IntKind.u64.wrap n / 1099511627776) 255 = IntKind.u64.wrap n / 1099511627776 % 256 := e
  rw [e2, wr (by omega) (by omega)]
  omega
theorem next_ev {c : List Int} (hc : codeOk c) {i s : Int} (hi : 0 ≤ i ∧ i ≤ 1000000000) : ∃ r s', spec_l1Cur_next.f c i s = some (r, i + 1, s') ∧ 0 ≤ r ∧ r ≤ 255 := by
  have hw : wrap64 (i + 1) = i + 1 := wr (by omega) (by omega)
  unfold spec_l1Cur_next.f
  rw [hw]
  by_cases h1 : i < (c.length : Int)
  · obtain ⟨n, rfl⟩ := Int.eq_ofNat_of_zero_le hi.1
    have hn : n < c.length := by omega
    have hb := hc.2 _ (List.getElem_mem hn)
    rw [if_pos h1, if_pos hi.1, if_pos (by omega), rd_at c n hn]
    exact ⟨_, _, rfl, by rw [wr (by omega) (by omega)]; exact hb⟩
  · rw [if_neg h1, if_neg (by have := hc.1; omega)]
    exact ⟨_, _, rfl, u64_low _⟩
theorem tmod_in {b n : Int} (hb : 0 ≤ b) (hn : 0 < n) : 0 ≤ Int.tmod b n ∧ Int.tmod b n < n := by
  rw [Int.tmod_eq_emod_of_nonneg hb]
  exact ⟨Int.emod_nonneg _ (by omega), Int.emod_lt_of_pos _ hn⟩
theorem pick_ev {c : List Int} (hc : codeOk c) {i s n : Int} (hi : 0 ≤ i ∧ i ≤ 999999990) : ∃ r j s', spec_l1Cur_pick.f c i s n = some (r, j, s') ∧ 0 ≤ r ∧ (r < n ∨ n ≤ 1 ∧ r = 0) ∧ i ≤ j ∧ j ≤ i + 2 := by
  unfold spec_l1Cur_pick.f
  by_cases h1 : n ≤ 1
  · rw [if_pos h1]
    exact ⟨0, i, s, rfl, by omega, Or.inr ⟨h1, rfl⟩, by omega, by omega⟩
  rw [if_neg h1]
  obtain ⟨r1, s1, e1, b1⟩ := next_ev hc (s := s) (i := i) (by omega)
  rw [e1, Option.bind_some]
  dsimp only
  by_cases h2 : n > 200
  · rw [if_pos h2]
    obtain ⟨r2, s2, e2, b2⟩ := next_ev hc (s := s1) (i := i + 1) (by omega)
    rw [e2, Option.bind_some]
    dsimp only
    rw [if_neg (by omega), wr (x := r1 * 256) (by omega) (by omega), wr (x := r1 * 256 + r2) (by omega) (by omega)]
    have := tmod_in (b := r1 * 256 + r2) (n := n) (by omega) (by omega)
    exact ⟨_, _, _, rfl, this.1, Or.inl this.2, by omega, by omega⟩
  · rw [if_neg h2, if_neg (by omega)]
    have := tmod_in (b := r1) (n := n) (by omega) (by omega)
    exact ⟨_, _, _, rfl, this.1, Or.inl this.2, by omega, by omega⟩
theorem among_ev {c : List Int} (hc : codeOk c) {i s : Int} (hi : 0 ≤ i ∧ i ≤ 999999990) (l : List Int) (hl : 0 < l.length) : ∃ r j s', spec_l1Cur_among.f c i s l = some (r, j, s') ∧ r ∈ l ∧ i ≤ j ∧ j ≤ i + 2 := by
  unfold spec_l1Cur_among.f
  obtain ⟨r, j, s1, e, h0, h1, h2⟩ := pick_ev hc (s := s) (n := (l.length : Int)) hi
  rw [e, Option.bind_some]
  dsimp only
  have hr : r < (l.length : Int) := by rcases h1 with h1 | h1 <;> omega
  rw [if_pos h0, if_pos hr]
  obtain ⟨n, rfl⟩ := Int.eq_ofNat_of_zero_le h0
  have hn : n < l.length := by omega
  exact ⟨_, _, _, rfl, by rw [rd_at l n hn]; exact List.getElem_mem hn, h2⟩
end Go.Proofs.Ytipahijdcgoemaa.UD
namespace Go.Proofs.Ytipahijdcgoemaa.UB
open Go.RowKit Go.Proofs.YtipahijdcgoemaaW.PrintWords Go.Proofs.YtipahijdcgoemaaW.PrintMore Go.Proofs.Ytipahijdcgoemaa.P Go.Proofs.Ytipahijdcgoemaa.U Go.Proofs.Ytipahijdcgoemaa.UT Go.Proofs.Ytipahijdcgoemaa.US Go.Proofs.Ytipahijdcgoemaa.UD
set_option linter.unusedVariables false

theorem idx_at (p : List Int → Bool) (l : List (List Int)) (j : Nat) (hj : j < l.length) : idxR p (l.drop j) j = if p l[j] = true then (j : Int) else idxR p (l.drop (j + 1)) (j + 1) := by
  rw [List.drop_eq_getElem_cons hj, idxR]
theorem idx_end (p : List Int → Bool) (l : List (List Int)) (j : Nat) (hj : l.length ≤ j) : idxR p (l.drop j) j = -1 := by
  rw [List.drop_of_length_le hj, idxR]
theorem idx_in (p : List Int → Bool) (l : List (List Int)) : ∀ d j, j + d = l.length → (idxR p (l.drop j) j = -1 ∧ ∀ x, x ∈ l.drop j → p x = false) ∨ ∃ t : Nat, ∃ h : t < l.length, idxR p (l.drop j) j = (t : Int) ∧ p l[t] = true
  | 0, j, hj => .inl ⟨idx_end p l j (by omega), fun x hx => by rw [List.drop_of_length_le (by omega)] at hx; simp at hx⟩
  | d + 1, j, hj => by
    have hlt : j < l.length := by omega
    rw [idx_at p l j hlt]
    cases hp : p l[j]
    · rw [if_neg (by simp)]
      rcases idx_in p l d (j + 1) (by omega) with ⟨h1, h2⟩ | h
      · refine .inl ⟨h1, fun x hx => ?_⟩
        rw [List.drop_eq_getElem_cons hlt] at hx
        rcases List.mem_cons.mp hx with rfl | hx
        · exact hp
        · exact h2 x hx
      · exact .inr h
    · exact .inr ⟨j, hlt, if_pos rfl, hp⟩
theorem free_l {P : List Int} (R h q : Int) (row : List Int) (hl : row.length ≤ 1048576) (hP : P.length ≤ 7) (hx : ∀ x, x ∈ row → 1 ≤ x ∧ x ≤ (P.length : Int)) : ∀ d j, j + d = row.length →
    Ev (fun k => spec_l10Free.l0 k row q (j : Int) R h P) (!((row.drop j).any fun n => decide (P.getD (n - 1).toNat 0 < q))) := by
  intro d
  induction d with
  | zero =>
    intro j hj
    refine Ev.step (fun k => by simp only [spec_l10Free.l0]; rfl) (ev_neg (by omega) (ev_const ?_))
    rw [List.drop_of_length_le (by omega)]; rfl
  | succ d ih =>
    intro j hj
    have hlt : j < row.length := by omega
    have hb := hx _ (List.getElem_mem hlt)
    refine Ev.step (fun k => by simp only [spec_l10Free.l0]; rfl) (ev_pos (by omega) (ev_pos (by omega) ?_))
    rw [rd_at row j hlt, wr (x := row[j] - 1) (by omega) (by omega), wsucc hlt (by omega), List.drop_eq_getElem_cons hlt, List.any_cons]
    refine ev_pos (by omega) (ev_pos (by omega) ?_)
    by_cases hc : rd P (row[j] - 1) < q
    · refine ev_eq (ev_pos hc (ev_const rfl)) ?_
      have hc2 : P.getD (row[j] - 1).toNat 0 < q := hc
      rw [decide_eq_true hc2]; rfl
    · have hc2 : ¬ P.getD (row[j] - 1).toNat 0 < q := hc
      rw [decide_eq_false hc2, Bool.false_or]
      exact ev_neg hc (ih (j + 1) (by omega))
theorem gr_found {P : List Int} (n : Nat) (h c : Int) (tab : List (List Int)) (plan : List Int) (i x8 x10 : Int) (hp : plan.length < 1048576) (h8 : 0 ≤ x8) (r : List Int × Int × Bool)
    (he : Ev (fun k => spec_GreedyStowage.l0 k (plan ++ [x8]) (wrap64 (i + 1)) n h P) r) : Ev (fun k => spec_GreedyStowage.l2 k plan i x8 x10 n h P c tab) r := by
  have hj : Ev (fun k => spec_GreedyStowage.j3 k plan i x8 x10 false n h P c tab) r :=
    Ev.step (fun k => by simp only [spec_GreedyStowage.j3]; rfl) (ev_neg (by simp) (ev_pos (by omega) he))
  refine Ev.step (fun k => by simp only [spec_GreedyStowage.l2]; rfl) ?_
  rw [decide_eq_false (show ¬ x8 < 0 by omega)]
  by_cases hc : x10 < (n : Int)
  · exact ev_pos hc hj
  · exact ev_neg hc hj
theorem gr_first {P : List Int} (n : Nat) (hn : n ≤ 5) (h c : Int) (tab : List (List Int)) (ht : tab.length = n) (plan : List Int) (i : Int) (hp : plan.length < 1048576) (r : List Int × Int × Bool) : ∀ d j, j + d = n →
    Ev (fun k => spec_GreedyStowage.l0 k (plan ++ [idxR (grH h) (tab.drop j) j]) (wrap64 (i + 1)) n h P) r → Ev (fun k => spec_GreedyStowage.l2 k plan i (-1) (j : Int) n h P c tab) r := by
  intro d
  induction d with
  | zero =>
    intro j hj he
    rw [idx_end _ _ _ (by omega)] at he
    refine Ev.step (fun k => by simp only [spec_GreedyStowage.l2]; rfl) (ev_neg (by omega) ?_)
    exact Ev.step (fun k => by simp only [spec_GreedyStowage.j3]; rfl) (ev_neg (by simp) (ev_pos (by omega) he))
  | succ d ih =>
    intro j hj he
    have hlt : j < tab.length := by omega
    rw [idx_at _ _ _ hlt] at he
    refine Ev.step (fun k => by simp only [spec_GreedyStowage.l2]; rfl) (ev_pos (by omega) ?_)
    refine Ev.step (fun k => by simp only [spec_GreedyStowage.j3]; rfl) (ev_pos (by decide) (ev_pos (by omega) (ev_pos (by omega) ?_)))
    rw [show rd_L2 tab (j : Int) = tab[j] from rd_l1 tab j hlt, wsucc hlt (by omega)]
    by_cases hc : (tab[j].length : Int) < h
    · rw [if_pos (by unfold grH; exact decide_eq_true hc)] at he
      exact ev_pos hc (gr_found n h c tab plan i _ _ hp (by omega) r he)
    · rw [if_neg (by unfold grH; rw [decide_eq_false hc]; simp)] at he
      exact ev_neg hc (ih (j + 1) (by omega) he)
theorem gr_down {P : List Int} (hP : P.length ≤ 7) (n : Nat) (hn : n ≤ 5) (h c : Int) (tab : List (List Int)) (ht : tab.length = n) (plan : List Int) (i : Nat) (hi : i < P.length) (hl : ∀ x, x ∈ tab → x.length ≤ 1048576) (hx : ∀ x, x ∈ tab.flatten → 1 ≤ x ∧ x ≤ (P.length : Int)) (r : List Int × Int × Bool)
    (he : Ev (fun k => spec_GreedyStowage.l2 k plan (i : Int) (idxR (grR P h (P.getD i 0)) tab 0) 0 n h P c tab) r) : ∀ j, j ≤ n →
    Ev (fun k => spec_GreedyStowage.l1 k plan (i : Int) (idxR (grR P h (P.getD i 0)) (tab.drop j) j) ((j : Int) - 1) n h P c tab) r := by
  intro j
  induction j with
  | zero =>
    intro _
    refine Ev.step (fun k => by simp only [spec_GreedyStowage.l1]; rfl) (ev_neg (by omega) ?_)
    rw [List.drop_zero]
    exact he
  | succ j ih =>
    intro hj
    have hlt : j < tab.length := by omega
    have hi2 := ih (by omega)
    rw [idx_at _ _ _ hlt] at hi2
    rw [show ((j + 1 : Nat) : Int) - 1 = (j : Int) by omega]
    refine Ev.step (fun k => by simp only [spec_GreedyStowage.l1]; rfl) (ev_pos (by omega) (ev_pos (by omega) (ev_pos (by omega) ?_)))
    rw [show rd_L2 tab (j : Int) = tab[j] from rd_l1 tab j hlt, rd_at P i hi, wr (x := (j : Int) - 1) (by omega) (by omega)]
    have hgr : grR P h (P.getD i 0) tab[j] = (decide ((tab[j].length : Int) < h) && !(tab[j].any fun m => decide (P.getD (m - 1).toNat 0 < P.getD i 0))) := rfl
    rw [hgr] at hi2
    by_cases hc : (tab[j].length : Int) < h
    · have hf := free_l (P := P) (n : Int) h P[i] tab[j] (hl _ (List.getElem_mem hlt)) hP (fun x hx2 => hx x (List.mem_flatten.mpr ⟨_, List.getElem_mem hlt, hx2⟩)) tab[j].length 0 (by omega)
      rw [List.drop_zero] at hf
      rw [decide_eq_true hc, Bool.true_and, getD_at P i 0 hi] at hi2
      refine ev_pos hc (ev_pos (by omega) (ev_pos (by omega) (Ev.bind (show Ev (fun k => spec_l10Free.f k (n : Int) h P tab[j] P[i]) _ from hf) ?_)))
      cases hb : (!(tab[j].any fun m => decide (P.getD (m - 1).toNat 0 < P[i])))
      · rw [hb, if_neg (by simp), ← getD_at P i 0 hi] at hi2
        exact ev_neg (by simp) hi2
      · rw [hb, if_pos rfl] at hi2
        exact ev_pos rfl hi2
    · rw [decide_eq_false hc, Bool.false_and, if_neg (by simp)] at hi2
      exact ev_neg hc hi2
theorem fill_more (p : List Int) (x : Int) : ∀ d i (out : List (List Int)), i + d = p.length → fill (p ++ [x]) (d + 1) i out = push (fill p d i out) x ((p.length : Int) + 1)
  | 0, i, out, h => by
    rw [fill, fill, fill, show i = p.length by omega, show (p ++ [x]).getD p.length 0 = x by simp [List.getD]]
  | d + 1, i, out, h => by
    rw [fill, fill_more p x d (i + 1) _ (by omega), show (p ++ [x]).getD i 0 = p.getD i 0 by rw [List.getD, List.getD, List.getElem?_append_left (by omega)]]
    conv => rhs; rw [fill]
theorem full_flat (h : Int) : ∀ (l : List (List Int)), (∀ x, x ∈ l → h ≤ (x.length : Int)) → (l.length : Int) * h ≤ (l.flatten.length : Int)
  | [], _ => by simp
  | r :: l, hx => by
    have h1 := hx r List.mem_cons_self
    have h2 := full_flat h l (fun x hx2 => hx x (List.mem_cons_of_mem _ hx2))
    rw [List.flatten_cons, List.length_append, List.length_cons]
    have e : ((l.length + 1 : Nat) : Int) * h = (l.length : Int) * h + h := by rw [Int.natCast_add, Int.add_mul]; simp
    rw [e]; omega
theorem greedy_main {P : List Int} (n : Nat) (h : Int) (hn : 1 ≤ n ∧ n ≤ 5) (hh : 1 ≤ h ∧ h ≤ 4) (h7 : P.length ≤ 7) (hc : (P.length : Int) ≤ (n : Int) * h) : ∀ d i (plan : List Int) (tab : List (List Int)), i + d = P.length → plan.length = i → rng n plan = true → tab = fill plan plan.length 0 (List.replicate n []) → low h tab = true → tab.flatten.length = i →
    ∃ (tabF : List (List Int)) (planF : List Int), grGo P h d i tab plan = some (tabF, planF) ∧ Ev (fun k => spec_GreedyStowage.l0 k plan (i : Int) n h P) (planF, ((puts [] (shA P tabF)).length : Int), true) ∧
      planF.length = P.length ∧ tabF.length ≤ 5 ∧ (∀ x, x ∈ tabF → x.length ≤ 4) ∧ tabF.flatten.Nodup ∧ (∀ x, x ∈ tabF.flatten → 1 ≤ x ∧ x ≤ (P.length : Int)) ∧ tabF = fill planF planF.length 0 (List.replicate n []) ∧ rng n planF = true ∧ low h tabF = true := by
  intro d
  induction d with
  | zero =>
    intro i plan tab hi hp hr ht hl hf
    have hb := bay_spec h P n plan hn.2 (by omega) hr
    rw [← ht] at hb
    obtain ⟨g1, g2⟩ := fill_once n plan hr plan.length 0 (List.replicate n []) (by omega) (by simp) (by simp) (fun x hx => by simp at hx)
    rw [← ht] at g1 g2
    have g3 : ∀ x, x ∈ tab.flatten → 1 ≤ x ∧ x ≤ (P.length : Int) := fun x hx => by have := g2 x hx; omega
    have g4 : tab.length ≤ 5 := by rw [ht, fill_len, List.length_replicate]; omega
    have g5 : ∀ x, x ∈ tab → x.length ≤ 4 := fun x hx => by have := of_decide_eq_true (List.all_eq_true.mp hl x hx); omega
    refine ⟨tab, plan, rfl, ?_, by omega, g4, g5, g1, g3, ht, hr, hl⟩
    refine Ev.step (fun k => by simp only [spec_GreedyStowage.l0]; rfl) (ev_neg (by omega) ?_)
    exact Ev.bind hb (Ev.bind (sh_spec h7 (n : Int) h h g4 g5 g3) (ev_const rfl))
  | succ d ih =>
    intro i plan tab hi hp hr ht hl hf
    have hlt : i < P.length := by omega
    have hb := bay_spec h P n plan hn.2 (by omega) hr
    rw [← ht] at hb
    obtain ⟨g1, g2⟩ := fill_once n plan hr plan.length 0 (List.replicate n []) (by omega) (by simp) (by simp) (fun x hx => by simp at hx)
    rw [← ht] at g1 g2
    have g3 : ∀ x, x ∈ tab.flatten → 1 ≤ x ∧ x ≤ (P.length : Int) := fun x hx => by have := g2 x hx; omega
    have gl : tab.length = n := by rw [ht, fill_len, List.length_replicate]
    have g5 : ∀ x, x ∈ tab → x.length ≤ 4 := fun x hx => by have := of_decide_eq_true (List.all_eq_true.mp hl x hx); omega
    -- a row with room
    have hat : ∃ t : Nat, ∃ hq : t < tab.length, grAt P h (P.getD i 0) tab = (t : Int) ∧ (tab[t].length : Int) < h := by
      unfold grAt
      rcases idx_in (grR P h (P.getD i 0)) tab tab.length 0 (by omega) with ⟨e1, _⟩ | ⟨t, hq, e1, e2⟩
      · rw [List.drop_zero] at e1
        rw [e1, if_pos (by omega)]
        rcases idx_in (grH h) tab tab.length 0 (by omega) with ⟨e3, e4⟩ | ⟨t, hq, e3, e4⟩
        · exfalso
          rw [List.drop_zero] at e4
          have := full_flat h tab (fun x hx => by have h2 := e4 x hx; unfold grH at h2; have := of_decide_eq_false h2; omega)
          rw [gl] at this
          omega
        · rw [List.drop_zero] at e3
          exact ⟨t, hq, e3, by unfold grH at e4; exact of_decide_eq_true e4⟩
      · rw [List.drop_zero] at e1
        rw [e1, if_neg (by omega)]
        refine ⟨t, hq, rfl, ?_⟩
        unfold grR grH at e2
        rw [Bool.and_eq_true] at e2
        exact of_decide_eq_true e2.1
    obtain ⟨t, hq, et, hroom⟩ := hat
    have epush : tab.set t (tab.getD t [] ++ [(i : Int) + 1]) = push tab (t : Int) ((i : Int) + 1) := rfl
    have eset : push tab (t : Int) ((i : Int) + 1) = tab.set t (tab[t] ++ [(i : Int) + 1]) := by rw [← epush, getD_at _ _ _ hq]
    have hperm := flat_set tab t hq ((i : Int) + 1)
    rw [← eset] at hperm
    obtain ⟨tabF, planF, k1, k2, k3⟩ := ih (i + 1) (plan ++ [(t : Int)]) (push tab (t : Int) ((i : Int) + 1)) (by omega) (by rw [List.length_append, hp]; rfl) (by
        unfold rng at hr ⊢
        rw [List.all_append, hr, List.all_cons, List.all_nil, show inr (t : Int) 0 ((n : Int) - 1) = true from inr_iff.mpr (by omega)]; rfl) (by
        rw [List.length_append, List.length_singleton, fill_more plan (t : Int) plan.length 0 _ (by omega), ← ht, hp]) (by
        rw [eset]
        refine List.all_eq_true.mpr fun r hr2 => ?_
        rcases List.mem_or_eq_of_mem_set hr2 with hr2 | rfl
        · exact List.all_eq_true.mp hl r hr2
        · rw [List.length_append, List.length_singleton]; exact decide_eq_true (by omega)) (by
        rw [hperm.length_eq, List.length_cons, hf])
    refine ⟨tabF, planF, ?_, ?_, k3⟩
    · rw [grGo, et, if_pos ⟨by omega, by omega⟩, Int.toNat_natCast, epush]
      exact k1
    · refine Ev.step (fun k => by simp only [spec_GreedyStowage.l0]; rfl) (ev_pos (by omega) (Ev.bind hb ?_))
      have hfin : Ev (fun k => spec_GreedyStowage.l0 k (plan ++ [grAt P h (P.getD i 0) tab]) (wrap64 ((i : Int) + 1)) n h P) (planF, ((puts [] (shA P tabF)).length : Int), true) := by
        rw [et, wsucc hlt (by omega)]
        exact k2
      have h2 : Ev (fun k => spec_GreedyStowage.l2 k plan (i : Int) (idxR (grR P h (P.getD i 0)) tab 0) 0 n h P h tab) (planF, ((puts [] (shA P tabF)).length : Int), true) := by
        rcases idx_in (grR P h (P.getD i 0)) tab tab.length 0 (by omega) with ⟨e1, _⟩ | ⟨u, hu, e1, _⟩
        · rw [List.drop_zero] at e1
          have hfin2 := hfin
          unfold grAt at hfin2
          rw [e1, if_pos (by omega)] at hfin2
          rw [e1]
          exact gr_first n hn.2 h h tab gl plan (i : Int) (by omega) _ n 0 (by omega) (by rw [List.drop_zero]; exact hfin2)
        · rw [List.drop_zero] at e1
          have hfin2 := hfin
          unfold grAt at hfin2
          rw [e1, if_neg (by omega)] at hfin2
          rw [e1]
          exact gr_found n h h tab plan (i : Int) _ _ (by omega) (by omega) _ hfin2
      have h3 := gr_down h7 n hn.2 h h tab gl plan i hlt (fun x hx => by have := g5 x hx; omega) g3 _ h2 n (Nat.le_refl _)
      rw [idx_end _ _ _ (by omega)] at h3
      change Ev (fun k => spec_GreedyStowage.l1 k plan (i : Int) (-1) (wrap64 ((n : Int) - 1)) n h P h tab) _
      rw [wr (x := (n : Int) - 1) (by omega) (by omega)]
      exact h3
theorem own1_spec (l : List Int) (hn : l.length ≤ 1048576) : spec_l1Own.f l = some l := by
  unfold spec_l1Own.f
  show (if ([] : List Int).length + l.length < 17592186044416 then some ([] ++ l) else none) = some l
  rw [if_pos (by simp; omega)]; rfl
/-! The best stowage: the program's walk over all plans and the reference's search. -/
def merge (a x : List Int × Int) : List Int × Int := if 0 ≤ x.2 ∧ (a.2 < 0 ∨ x.2 < a.2) then x else a
theorem merge_assoc (s a x : List Int × Int) : merge s (merge a x) = merge (merge s a) x := by
  unfold merge
  repeat' split
  all_goals first | rfl | (exfalso; simp only [not_and_or, not_or, not_lt, not_le] at *; omega) | omega
theorem merge_none (s : List Int × Int) : merge s ([], -1) = s := by
  unfold merge; rw [if_neg]; simp
def sBr (f : Nat → List Int × Int) (full : Nat → Bool) : Nat → Nat → List Int × Int → List Int × Int
  | 0, _, acc => acc
  | c + 1, j, acc => sBr f full c (j + 1) (if full j = true then acc else merge acc (f j))
theorem sBr_merge (f : Nat → List Int × Int) (full : Nat → Bool) (s : List Int × Int) : ∀ c j acc, sBr f full c j (merge s acc) = merge s (sBr f full c j acc)
  | 0, _, _ => rfl
  | c + 1, j, acc => by
    rw [sBr, sBr]
    by_cases h : full j = true
    · rw [if_pos h, if_pos h]; exact sBr_merge f full s c (j + 1) acc
    · rw [if_neg h, if_neg h, ← merge_assoc]; exact sBr_merge f full s c (j + 1) _
theorem sBr_ind (P : List Int × Int → Prop) (f : Nat → List Int × Int) (full : Nat → Bool) (hf : ∀ j, P (f j)) : ∀ c j acc, P acc → P (sBr f full c j acc)
  | 0, _, _, h => h
  | c + 1, j, acc, h => by
    rw [sBr]
    refine sBr_ind P f full hf c (j + 1) _ ?_
    split
    · exact h
    · unfold merge
      split
      · exact hf j
      · exact h
abbrev tabOf (n : Nat) (p : List Int) : List (List Int) := fill p p.length 0 (List.replicate n [])
def sB (n : Nat) (h : Int) (l : List Int) : Nat → List Int → List Int × Int
  | 0, p => (p, ((puts [] (shA l (tabOf n p))).length : Int))
  | d + 1, p => sBr (fun j => sB n h l d (p ++ [(j : Int)])) (fun j => decide ((((tabOf n p).getD j []).length : Int) = h)) n 0 ([], -1)
theorem sB_len (n : Nat) (h : Int) (l : List Int) : ∀ d p, (sB n h l d p).1.length ≤ p.length + d
  | 0, p => by rw [sB]; simp
  | d + 1, p => by
    rw [sB]
    refine sBr_ind (fun x => x.1.length ≤ p.length + (d + 1)) _ _ (fun j => ?_) n 0 _ (by simp)
    have := sB_len n h l d (p ++ [(j : Int)])
    rw [List.length_append, List.length_singleton] at this
    omega
theorem sB_two (n : Nat) (h : Int) (l : List Int) : ∀ d p, sB n h l d p = ([], -1) ∨ 0 ≤ (sB n h l d p).2
  | 0, p => by rw [sB]; exact .inr (by show (0 : Int) ≤ _; omega)
  | d + 1, p => by
    rw [sB]
    exact sBr_ind (fun x => x = ([], -1) ∨ 0 ≤ x.2) _ _ (fun j => sB_two n h l d _) n 0 _ (.inl rfl)
theorem tab_more (n : Nat) (p : List Int) (x : Int) : tabOf n (p ++ [x]) = push (tabOf n p) x ((p.length : Int) + 1) := by
  show fill (p ++ [x]) (p ++ [x]).length 0 _ = _
  rw [List.length_append, List.length_singleton]
  exact fill_more p x p.length 0 _ (by omega)
theorem tab_len (n : Nat) (p : List Int) : (tabOf n p).length = n := by rw [fill_len, List.length_replicate]
theorem rng_more {n : Nat} {p : List Int} (hr : rng n p = true) {j : Nat} (hj : j < n) : rng n (p ++ [(j : Int)]) = true := by
  unfold rng at hr ⊢
  rw [List.all_append, hr, List.all_cons, List.all_nil, show inr (j : Int) 0 ((n : Int) - 1) = true from inr_iff.mpr (by omega)]; rfl
/-- A row that is too high stays so. -/
theorem over_more {n : Nat} {h : Int} {p : List Int} (x : Int) (ho : low h (tabOf n p) = false) : low h (tabOf n (p ++ [x])) = false := by
  rw [tab_more]
  obtain ⟨r, hr, hh⟩ := List.all_eq_false.mp ho
  obtain ⟨j, hj, rfl⟩ := List.getElem_of_mem hr
  have hj2 : j < (push (tabOf n p) x ((p.length : Int) + 1)).length := by rw [push_len]; exact hj
  refine List.all_eq_false.mpr ⟨(push (tabOf n p) x ((p.length : Int) + 1))[j], List.getElem_mem hj2, ?_⟩
  have hg := push_ge (tabOf n p) x ((p.length : Int) + 1) j
  rw [getD_at _ _ _ hj, getD_at _ _ _ hj2] at hg
  simp only [decide_eq_true_eq] at hh ⊢
  omega
theorem low_more {n : Nat} {h : Int} {p : List Int} (hl : low h (tabOf n p) = true) {j : Nat} (hj : j < n) : low h (tabOf n (p ++ [(j : Int)])) = !decide ((((tabOf n p).getD j []).length : Int) = h) := by
  rw [tab_more]
  have hjt : j < (tabOf n p).length := by rw [tab_len]; exact hj
  have hb := low_at hl j hjt
  have e : push (tabOf n p) (j : Int) ((p.length : Int) + 1) = (tabOf n p).set j ((tabOf n p).getD j [] ++ [(p.length : Int) + 1]) := rfl
  by_cases hc : (((tabOf n p).getD j []).length : Int) = h
  · rw [decide_eq_true hc]
    have hj2 : j < (push (tabOf n p) (j : Int) ((p.length : Int) + 1)).length := by rw [push_len]; exact hjt
    refine List.all_eq_false.mpr ⟨(tabOf n p).getD j [] ++ [(p.length : Int) + 1], ?_, ?_⟩
    · rw [e]; exact List.mem_set hjt _
    · rw [List.length_append, List.length_singleton]; simp only [decide_eq_true_eq]; omega
  · rw [decide_eq_false hc]
    refine List.all_eq_true.mpr fun r hr => ?_
    rw [e] at hr
    rcases List.mem_or_eq_of_mem_set hr with hr | rfl
    · exact List.all_eq_true.mp hl r hr
    · rw [List.length_append, List.length_singleton]; exact decide_eq_true (by omega)
/-- A bay's facts. -/
theorem bay_facts {n : Nat} {h : Int} {l : List Int} (hn : 1 ≤ n ∧ n ≤ 5) (hh : 1 ≤ h ∧ h ≤ 4) (p : List Int) (hp : p.length ≤ l.length) (hr : rng n p = true) (hl : low h (tabOf n p) = true) : (tabOf n p).flatten.Nodup ∧ (∀ x, x ∈ (tabOf n p).flatten → 1 ≤ x ∧ x ≤ (l.length : Int)) ∧ (tabOf n p).length ≤ 5 ∧ ∀ x, x ∈ tabOf n p → x.length ≤ 4 := by
  obtain ⟨g1, g2⟩ := fill_once n p hr p.length 0 (List.replicate n []) (by omega) (by simp) (by simp) (fun x hx => by simp at hx)
  exact ⟨g1, fun x hx => by have := g2 x hx; omega, by rw [tab_len]; omega, fun x hx => by have := of_decide_eq_true (List.all_eq_true.mp hl x hx); omega⟩
section
variable {n : Nat} {h : Int} {l : List Int} (hn : 1 ≤ n ∧ n ≤ 5) (hh : 1 ≤ h ∧ h ≤ 4) (h7 : l.length ≤ 7) (hk : okSt (n : Int) h l = true)
include hn hh h7 hk
theorem plan_ev (p : List Int) (hp : p.length = l.length) (hr : rng n p = true) : Ev (fun k => impl_planBay.f k (n : Int) h l p) (if low h (tabOf n p) = true then (h, tabOf n p, true) else (0, [], false)) := by
  have hlow0 : low h (List.replicate n []) = true := by
    refine List.all_eq_true.mpr fun r hr => ?_
    rw [List.eq_of_mem_replicate hr]; exact decide_eq_true (by simp; omega)
  have hi := loop_impl (n : Int) h l p (by omega) hh.2 (by omega) p.length 0 (List.replicate n []) (by omega) (by simp) hlow0
  rw [List.drop_zero] at hi
  have e : (if rng (n : Int) p = true ∧ low h (tabOf n p) = true then (h, tabOf n p, true) else (0, [], false)) = (if low h (tabOf n p) = true then (h, tabOf n p, true) else (0, [], false)) := by
    by_cases hq : low h (tabOf n p) = true
    · rw [if_pos ⟨hr, hq⟩, if_pos hq]
    · rw [if_neg (fun hc => hq hc.2), if_neg hq]
  rw [← e]
  unfold impl_planBay.f
  refine ev_call (show impl_IsValidStowage.f (n : Int) h l = some (okSt n h l) from rfl) ?_
  rw [hk, show ((p.length : Int) != (l.length : Int)) = false by rw [hp]; simp]
  refine ev_pos rfl (Ev.step (fun k => by simp only [impl_planBay.j0]; rfl) ?_)
  refine ev_neg (by simp) (ev_pos (by omega) (ev_pos (by omega) ?_))
  rw [Int.toNat_natCast]
  exact hi
theorem step_ev (p : List Int) (hp : p.length = l.length) (hr : rng n p = true) (s : List Int × Int) : Ev (fun k => bsStep k (n : Int) h l s p) (if low h (tabOf n p) = true then merge s (sB n h l 0 p) else s) := by
  have hpl := plan_ev hn hh h7 hk p hp hr
  by_cases hl : low h (tabOf n p) = true
  · rw [if_pos hl] at hpl ⊢
    obtain ⟨g1, g2, g3, g4⟩ := bay_facts (l := l) hn hh p (by omega) hr hl
    unfold bsStep
    refine Ev.bind hpl (ev_pos rfl (ev_call (sh_impl (n : Int) h h g3 g4 g2 g1) ?_))
    unfold merge
    rw [sB]
    by_cases hc : s.2 < 0 ∨ ((puts [] (shA l (tabOf n p))).length : Int) < s.2
    · exact ev_eq (ev_pos hc (ev_const rfl)) (if_pos ⟨by show (0 : Int) ≤ _; omega, hc⟩).symm
    · exact ev_eq (ev_neg hc (ev_const rfl)) (if_neg (fun h => hc h.2)).symm
  · rw [if_neg hl] at hpl ⊢
    unfold bsStep
    exact Ev.bind hpl (ev_neg (by simp) (ev_const rfl))
theorem go_ev : ∀ d p s, p.length + d = l.length → rng n p = true → Ev (fun k => chGo n (bsStep k (n : Int) h l) d p s) (if low h (tabOf n p) = true then merge s (sB n h l d p) else s)
  | 0, p, s, hp, hr => by
    have := step_ev hn hh h7 hk p (by omega) hr s
    exact this
  | d + 1, p, s, hp, hr => by
    have ih := go_ev d
    by_cases hl : low h (tabOf n p) = true
    · rw [if_pos hl, sB, ← sBr_merge, merge_none]
      have key : ∀ c j s1, j + c = n → Ev (fun k => chL (fun j s1 => chGo n (bsStep k (n : Int) h l) d (p ++ [(j : Int)]) s1) c j s1) (sBr (fun j => sB n h l d (p ++ [(j : Int)])) (fun j => decide ((((tabOf n p).getD j []).length : Int) = h)) c j s1) := by
        intro c
        induction c with
        | zero => intro j s1 hj; exact ev_const rfl
        | succ c ihc =>
          intro j s1 hj
          have h1 := ih (p ++ [(j : Int)]) s1 (by rw [List.length_append, List.length_singleton]; omega) (rng_more hr (by omega))
          rw [low_more hl (show j < n by omega)] at h1
          refine Ev.bind h1 ?_
          rw [sBr]
          have e : (if (!decide ((((tabOf n p).getD j []).length : Int) = h)) = true then merge s1 (sB n h l d (p ++ [(j : Int)])) else s1) = (if decide ((((tabOf n p).getD j []).length : Int) = h) = true then s1 else merge s1 (sB n h l d (p ++ [(j : Int)]))) := by
            cases decide ((((tabOf n p).getD j []).length : Int) = h) <;> rfl
          rw [e]
          exact ihc (j + 1) _ (by omega)
      exact key n 0 s (by omega)
    · have hl2 : low h (tabOf n p) = false := by cases hq : low h (tabOf n p) <;> simp_all
      rw [if_neg hl]
      have key : ∀ c j s1, j + c = n → Ev (fun k => chL (fun j s1 => chGo n (bsStep k (n : Int) h l) d (p ++ [(j : Int)]) s1) c j s1) s1 := by
        intro c
        induction c with
        | zero => intro j s1 hj; exact ev_const rfl
        | succ c ihc =>
          intro j s1 hj
          have h1 := ih (p ++ [(j : Int)]) s1 (by rw [List.length_append, List.length_singleton]; omega) (rng_more hr (by omega))
          rw [over_more _ hl2, if_neg (by simp)] at h1
          exact Ev.bind h1 (ihc (j + 1) s1 (by omega))
      exact key n 0 s (by omega)
end
/-- The reference's search. -/
theorem spec_ev {n : Nat} {h : Int} {l : List Int} (hn : 1 ≤ n ∧ n ≤ 5) (hh : 1 ≤ h ∧ h ≤ 4) (h7 : l.length ≤ 7) : ∀ d p, p.length + d = l.length → rng n p = true → low h (tabOf n p) = true → Ev (fun k => spec_l10Best.f k (n : Int) h l p) (sB n h l d p)
  | 0, p, hp, hr, hl => by
    have hb := bay_spec h l n p hn.2 (by omega) hr
    obtain ⟨g1, g2, g3, g4⟩ := bay_facts (l := l) hn hh p (by omega) hr hl
    refine Ev.step (fun k => by simp only [spec_l10Best.f]; rfl) (Ev.bind hb ?_)
    refine ev_pos (by omega) ?_
    exact Ev.bind (sh_spec h7 (n : Int) h h g3 g4 g2) (ev_const rfl)
  | d + 1, p, hp, hr, hl => by
    have ih := spec_ev hn hh h7 d
    have hb := bay_spec h l n p hn.2 (by omega) hr
    refine Ev.step (fun k => by simp only [spec_l10Best.f]; rfl) (Ev.bind hb ?_)
    refine ev_neg (by omega) ?_
    rw [sB]
    have key : ∀ c j acc, j + c = n → Ev (fun k => spec_l10Best.l0 k p acc.1 acc.2 (j : Int) (n : Int) h l h (tabOf n p)) (sBr (fun j => sB n h l d (p ++ [(j : Int)])) (fun j => decide ((((tabOf n p).getD j []).length : Int) = h)) c j acc) := by
      intro c
      induction c with
      | zero => intro j acc hj; exact Ev.step (fun k => by simp only [spec_l10Best.l0]; rfl) (ev_neg (by omega) (ev_const rfl))
      | succ c ihc =>
        intro j acc hj
        have hjt : j < (tabOf n p).length := by rw [tab_len]; omega
        have hjl : j < n := by omega
        refine Ev.step (fun k => by simp only [spec_l10Best.l0]; rfl) (ev_pos (by omega) (ev_pos (by omega) (ev_pos (by omega) ?_)))
        rw [show rd_L2 (tabOf n p) (j : Int) = (tabOf n p).getD j [] from by unfold rd_L2; rw [Int.toNat_natCast], wsucc hjl (by omega), sBr]
        by_cases hc : (((tabOf n p).getD j []).length : Int) = h
        · rw [if_pos (decide_eq_true hc)]
          exact ev_pos hc (ihc (j + 1) acc (by omega))
        · rw [if_neg (by simpa using hc)]
          have hlow : low h (tabOf n (p ++ [(j : Int)])) = true := by rw [low_more hl hjl, decide_eq_false hc]; rfl
          have hrec := ih (p ++ [(j : Int)]) (by rw [List.length_append, List.length_singleton]; omega) (rng_more hr hjl) hlow
          refine ev_neg hc (ev_call (own1_spec p (by omega)) (ev_call (show some (([(j : Int)] : List Int) : List Int) = some [(j : Int)] from rfl) (ev_pos (by simp; omega) (Ev.bind hrec ?_))))
          have hgo := ihc (j + 1) (merge acc (sB n h l d (p ++ [(j : Int)]))) (by omega)
          generalize sB n h l d (p ++ [(j : Int)]) = x at hgo ⊢
          unfold merge at hgo ⊢
          by_cases c1 : x.2 ≥ 0
          · refine ev_pos c1 ?_
            by_cases c2 : acc.2 < 0
            · rw [if_pos ⟨c1, .inl c2⟩] at hgo ⊢
              exact ev_pos c2 hgo
            · refine ev_neg c2 ?_
              by_cases c3 : x.2 < acc.2
              · rw [if_pos ⟨c1, .inr c3⟩] at hgo ⊢
                exact ev_pos c3 hgo
              · rw [if_neg (fun hq => hq.2.elim c2 c3)] at hgo ⊢
                exact ev_neg c3 hgo
          · rw [if_neg (fun hq => c1 hq.1)] at hgo ⊢
            exact ev_neg c1 hgo
    exact key n 0 ([], -1) (by omega)
/-! The least of all plans. -/
abbrev cnt (l : List Int) (n : Nat) (p : List Int) : Int := ((puts [] (shA l (tabOf n p))).length : Int)
theorem sBr_acc (f : Nat → List Int × Int) (full : Nat → Bool) : ∀ c j (acc : List Int × Int), 0 ≤ acc.2 → 0 ≤ (sBr f full c j acc).2 ∧ (sBr f full c j acc).2 ≤ acc.2
  | 0, _, acc, h => ⟨h, Int.le_refl _⟩
  | c + 1, j, acc, h => by
    rw [sBr]
    by_cases hf : full j = true
    · rw [if_pos hf]; exact sBr_acc f full c (j + 1) acc h
    · rw [if_neg hf]
      unfold merge
      by_cases hc : 0 ≤ (f j).2 ∧ (acc.2 < 0 ∨ (f j).2 < acc.2)
      · rw [if_pos hc]
        have := sBr_acc f full c (j + 1) (f j) hc.1
        omega
      · rw [if_neg hc]; exact sBr_acc f full c (j + 1) acc h
theorem sBr_le (f : Nat → List Int × Int) (full : Nat → Bool) (i : Nat) (hi : full i = false) (h0 : 0 ≤ (f i).2) : ∀ c j (acc : List Int × Int), j ≤ i → i < j + c → 0 ≤ (sBr f full c j acc).2 ∧ (sBr f full c j acc).2 ≤ (f i).2
  | 0, _, _, h1, h2 => by omega
  | c + 1, j, acc, h1, h2 => by
    rw [sBr]
    by_cases hj : j = i
    · subst hj
      rw [hi, if_neg (by simp)]
      unfold merge
      by_cases hc : 0 ≤ (f j).2 ∧ (acc.2 < 0 ∨ (f j).2 < acc.2)
      · rw [if_pos hc]; exact sBr_acc f full c (j + 1) (f j) h0
      · rw [if_neg hc]
        have := sBr_acc f full c (j + 1) acc (by omega)
        omega
    · exact sBr_le f full i hi h0 c (j + 1) _ (by omega) (by omega)
theorem sBr_all (P : List Int × Int → Prop) (f : Nat → List Int × Int) (full : Nat → Bool) : ∀ c j acc, (∀ i, j ≤ i → i < j + c → full i = false → P (f i)) → P acc → P (sBr f full c j acc)
  | 0, _, _, _, h => h
  | c + 1, j, acc, hf, h => by
    rw [sBr]
    refine sBr_all P f full c (j + 1) _ (fun i h1 h2 => hf i (by omega) (by omega)) ?_
    split
    · exact h
    · rename_i hj
      unfold merge
      split
      · exact hf j (Nat.le_refl _) (by omega) (by simpa using hj)
      · exact h
theorem low_pre {n : Nat} {h : Int} : ∀ (q p : List Int), low h (tabOf n (p ++ q)) = true → low h (tabOf n p) = true
  | [], p, hl => by rw [List.append_nil] at hl; exact hl
  | x :: q, p, hl => by
    have h2 := low_pre q (p ++ [x]) (by rw [List.append_assoc]; exact hl)
    cases hq : low h (tabOf n p)
    · rw [over_more x hq] at h2; cases h2
    · rfl
theorem sB_min {n : Nat} {h : Int} {l : List Int} : ∀ d p q, q.length = d → rng n (p ++ q) = true → low h (tabOf n (p ++ q)) = true → 0 ≤ (sB n h l d p).2 ∧ (sB n h l d p).2 ≤ cnt l n (p ++ q)
  | 0, p, q, hq, hr, hl => by
    obtain rfl := List.length_eq_zero_iff.1 hq
    rw [List.append_nil, sB]
    exact ⟨by show (0 : Int) ≤ _; omega, Int.le_refl _⟩
  | d + 1, p, x :: q, hq, hr, hl => by
    have hx : inr x 0 ((n : Int) - 1) = true := List.all_eq_true.mp hr x (List.mem_append_right _ List.mem_cons_self)
    obtain ⟨x0, x1⟩ := inr_iff.mp hx
    obtain ⟨j, rfl⟩ := Int.eq_ofNat_of_zero_le x0
    have e : p ++ (j : Int) :: q = (p ++ [(j : Int)]) ++ q := by rw [List.append_assoc]; rfl
    have hl2 : low h (tabOf n ((p ++ [(j : Int)]) ++ q)) = true := by rw [← e]; exact hl
    have hih := sB_min (l := l) d (p ++ [(j : Int)]) q (by simpa using hq) (by rw [← e]; exact hr) hl2
    rw [← e] at hih
    have hpj := low_pre q (p ++ [(j : Int)]) hl2
    have hp := low_pre ((j : Int) :: q) p hl
    rw [low_more hp (show j < n by omega)] at hpj
    rw [sB]
    have := sBr_le (fun j => sB n h l d (p ++ [(j : Int)])) (fun j => decide ((((tabOf n p).getD j []).length : Int) = h)) j (by simpa using hpj) hih.1 n 0 ([], -1) (by omega) (by omega)
    exact ⟨this.1, Int.le_trans this.2 hih.2⟩
theorem sB_good {n : Nat} {h : Int} {l : List Int} : ∀ d p, rng n p = true → low h (tabOf n p) = true → 0 ≤ (sB n h l d p).2 → ∃ q, (sB n h l d p).1 = p ++ q ∧ q.length = d ∧ rng n (p ++ q) = true ∧ low h (tabOf n (p ++ q)) = true ∧ (sB n h l d p).2 = cnt l n (p ++ q)
  | 0, p, hr, hl, _ => ⟨[], by rw [sB, List.append_nil], rfl, by rw [List.append_nil]; exact hr, by rw [List.append_nil]; exact hl, by rw [sB, List.append_nil]⟩
  | d + 1, p, hr, hl, h0 => by
    rw [sB] at h0 ⊢
    revert h0
    refine sBr_all (fun x => 0 ≤ x.2 → ∃ q, x.1 = p ++ q ∧ q.length = d + 1 ∧ rng n (p ++ q) = true ∧ low h (tabOf n (p ++ q)) = true ∧ x.2 = cnt l n (p ++ q)) _ _ n 0 _ (fun j _ hj hf hn => ?_) (fun hn => by exact absurd hn (by decide))
    have hjl : j < n := by omega
    obtain ⟨q, g1, g2, g3, g4, g5⟩ := sB_good (l := l) d (p ++ [(j : Int)]) (rng_more hr hjl) (by rw [low_more hl hjl, hf]; rfl) hn
    have e : (p ++ [(j : Int)]) ++ q = p ++ (j : Int) :: q := by rw [List.append_assoc]; rfl
    rw [e] at g1 g3 g4 g5
    exact ⟨(j : Int) :: q, g1, by rw [List.length_cons, g2], g3, g4, g5⟩
/-! The parts' values. -/
def bestV (R h : Int) (l : List Int) : List Int × Int × Bool := if okSt R h l = true then ((sB R.toNat h l l.length []).1, (sB R.toNat h l l.length []).2, true) else ([], 0, false)
theorem best_both (R h : Int) (l : List Int) (hn : l.length ≤ 1048576) : Ev (fun k => spec_BestStowage.f k R h l) (bestV R h l) ∧ Ev (fun k => impl_BestStowage.f k R h l) (bestV R h l) := by
  unfold spec_BestStowage.f impl_BestStowage.f bestV
  have hg := st_spec R h l (by omega)
  cases hk : okSt R h l
  · rw [hk] at hg
    rw [if_neg (by simp)]
    exact ⟨Ev.bind hg (ev_neg (by simp) (ev_const rfl)), ev_call (show impl_IsValidStowage.f R h l = some false by rw [show impl_IsValidStowage.f R h l = some (okSt R h l) from rfl, hk]) (ev_neg (by simp) (ev_const rfl))⟩
  · rw [hk] at hg
    rw [if_pos rfl]
    have hk2 := hk
    unfold okSt at hk2
    simp only [Bool.and_eq_true, inr_iff, decide_eq_true_eq] at hk2
    obtain ⟨⟨r1, r5⟩, ⟨b1, b4⟩, h7, hc, _⟩ := hk2
    obtain ⟨n, rfl⟩ := Int.eq_ofNat_of_zero_le (show 0 ≤ R by omega)
    have hn5 : 1 ≤ n ∧ n ≤ 5 := by omega
    have h7n : l.length ≤ 7 := by omega
    have hl0 : low h (tabOf n []) = true := by
      refine List.all_eq_true.mpr fun r hr => ?_
      rw [List.eq_of_mem_replicate (show r ∈ List.replicate n [] from hr)]; exact decide_eq_true (by simp; omega)
    have e1 := spec_ev hn5 ⟨b1, b4⟩ h7n l.length [] (by simp) rfl hl0
    have e2 := go_ev hn5 ⟨b1, b4⟩ h7n hk l.length [] ([], -1) (by simp) rfl
    rw [if_pos hl0] at e2
    have e3 : merge ([], -1) (sB n h l l.length []) = sB n h l l.length [] := by
      unfold merge
      rcases sB_two n h l l.length [] with h1 | h1
      · rw [h1]; simp
      · rw [if_pos ⟨h1, .inl (by decide)⟩]
    rw [e3] at e2
    rw [Int.toNat_natCast]
    exact ⟨Ev.bind hg (ev_pos rfl (Ev.bind e1 (ev_const rfl))), ev_call (show impl_IsValidStowage.f (n : Int) h l = some true by rw [show impl_IsValidStowage.f (n : Int) h l = some (okSt n h l) from rfl, hk]) (ev_pos rfl (ev_pos ⟨by omega, by omega, by omega⟩ (Ev.bind e2 (ev_const rfl))))⟩
/-- A plan that is possible. -/
def Good (R h : Int) (l p : List Int) : Prop := p.length = l.length ∧ rng R p = true ∧ low h (tabOf R.toNat p) = true
theorem greedy_both (R h : Int) (l : List Int) (hn : l.length ≤ 1048576) :
    ∃ (r : List Int) (m : Int), Ev (fun k => spec_GreedyStowage.f k R h l) (r, m, okSt R h l) ∧ impl_GreedyStowage.f R h l = some (r, m, okSt R h l) ∧ r.length ≤ 1048576 ∧ (okSt R h l = false → m = 0) ∧ (okSt R h l = true → Good R h l r ∧ m = cnt l R.toNat r) := by
  unfold spec_GreedyStowage.f impl_GreedyStowage.f
  have hg := st_spec R h l (by omega)
  cases hk : okSt R h l
  · rw [hk] at hg
    exact ⟨[], 0, Ev.bind (ev_const rfl) (Ev.bind hg (ev_neg (by simp) (ev_const rfl))), by rw [if_neg (by simp)], by simp, fun _ => rfl, fun h => by cases h⟩
  · rw [hk] at hg
    have hk2 := hk
    unfold okSt at hk2
    simp only [Bool.and_eq_true, inr_iff, decide_eq_true_eq] at hk2
    obtain ⟨⟨r1, r5⟩, ⟨b1, b4⟩, h7, hc, _⟩ := hk2
    obtain ⟨n, rfl⟩ := Int.eq_ofNat_of_zero_le (show 0 ≤ R by omega)
    obtain ⟨tabF, planF, k1, k2, k3, k4, k5, k6, k7, k8, k9, k10⟩ := greedy_main (P := l) n h ⟨by omega, by omega⟩ ⟨b1, b4⟩ (by omega) hc l.length 0 [] (List.replicate n []) (by omega) rfl rfl rfl (by
      refine List.all_eq_true.mpr fun r hr => ?_
      rw [List.eq_of_mem_replicate hr]; exact decide_eq_true (by simp; omega)) (by simp)
    refine ⟨planF, ((puts [] (shA l tabF)).length : Int), Ev.bind (ev_const rfl) (Ev.bind hg (ev_pos rfl k2)), ?_, by omega, (fun h => by cases h), fun _ => ⟨⟨k3, k9, by rw [Int.toNat_natCast]; exact (congrArg (low h) k8.symm).trans k10⟩, by rw [Int.toNat_natCast, k8]⟩⟩
    rw [if_pos rfl, Int.toNat_natCast, k1]
    simp only [Option.bind_some]
    rw [sh_impl (n : Int) h h k4 k5 k7 k6]
    rfl
theorem greedy_ev (R h : Int) (l : List Int) (hn : l.length ≤ 1048576) :
    ∃ (r : List Int) (m : Int) (b : Bool), Ev (fun k => spec_GreedyStowage.f k R h l) (r, m, b) ∧ r.length ≤ 1048576 := by
  obtain ⟨r, m, h1, _, h2, _⟩ := greedy_both R h l hn
  exact ⟨r, m, _, h1, h2⟩
def shV (ok : Bool) (P : List Int) (b : List (List Int)) : List Int × Bool := if ok = true then (puts [] (shA P b), true) else ([], false)
theorem sh_both {R h : Int} {l p : List Int} {ok : Bool} {b : List (List Int)} (hp : Parts R h l p ok b) : Ev (fun k => spec_ShiftedBoxes.f k R h l p) (shV ok l b) ∧ Ev (fun k => impl_ShiftedBoxes.f k R h l p) (shV ok l b) := by
  obtain ⟨h1, h2, h3⟩ := hp
  unfold spec_ShiftedBoxes.f impl_ShiftedBoxes.f shV
  cases ok
  · rw [if_neg (by simp)] at h2
    rw [if_neg (by simp)]
    exact ⟨Ev.bind h1 (ev_neg (by simp) (ev_const rfl)), Ev.bind h2 (ev_neg (by simp) (ev_const rfl))⟩
  · rw [if_pos rfl] at h2
    rw [if_pos rfl]
    obtain ⟨g1, g2, g3, g4, g5, g6, _⟩ := h3 rfl
    exact ⟨Ev.bind h1 (ev_pos rfl (Ev.bind g1 (Ev.bind (sh_spec g4 R h h g5 g6 g3) (ev_const rfl)))), Ev.bind h2 (ev_pos rfl (ev_call (sh_impl R h h g5 g6 g3 g2) (ev_const rfl)))⟩
theorem sh_small {R h : Int} {l p : List Int} {ok : Bool} {b : List (List Int)} (hp : Parts R h l p ok b) : (shV ok l b).1.length ≤ 20 := by
  unfold shV
  cases ok
  · rw [if_neg (by simp)]; simp
  · rw [if_pos rfl]
    obtain ⟨g1, g2, g3, g4, g5, g6, _⟩ := hp.2.2 rfl
    exact sh_len g5 g6
/-- A plan that is possible is planned. -/
theorem good_parts {R h : Int} {l p : List Int} (hn : l.length ≤ 1048576) (hk : okSt R h l = true) (hg : Good R h l p) : Parts R h l p true (tabOf R.toNat p) := by
  obtain ⟨g1, g2, g3⟩ := hg
  have hk2 := hk
  unfold okSt at hk2
  simp only [Bool.and_eq_true, inr_iff, decide_eq_true_eq] at hk2
  obtain ⟨⟨r1, r5⟩, hb, h7, hc, _⟩ := hk2
  obtain ⟨n, rfl⟩ := Int.eq_ofNat_of_zero_le (show 0 ≤ R by omega)
  rw [Int.toNat_natCast] at g3 ⊢
  obtain ⟨ok, b, hp⟩ := plan_parts (n : Int) h l hn p (by omega)
  have hpl := plan_ev (l := l) ⟨by omega, by omega⟩ hb (by omega) hk p g1 g2
  rw [if_pos g3] at hpl
  have e := ev_uniq hp.2.1 hpl
  cases ok
  · rw [if_neg (by simp)] at e; simp at e
  · rw [if_pos rfl] at e
    simp only [Prod.mk.injEq, and_true, true_and] at e
    rw [← e]; exact hp
theorem best_min {R h : Int} {l p : List Int} (hk : okSt R h l = true) (hg : Good R h l p) : 0 ≤ (sB R.toNat h l l.length []).2 ∧ (sB R.toNat h l l.length []).2 ≤ cnt l R.toNat p := by
  obtain ⟨g1, g2, g3⟩ := hg
  have hk2 := hk
  unfold okSt at hk2
  simp only [Bool.and_eq_true, inr_iff, decide_eq_true_eq] at hk2
  obtain ⟨⟨r1, r5⟩, _⟩ := hk2
  obtain ⟨n, rfl⟩ := Int.eq_ofNat_of_zero_le (show 0 ≤ R by omega)
  rw [Int.toNat_natCast] at g3 ⊢
  exact sB_min l.length [] p g1 g2 g3
theorem best_good {R h : Int} {l p : List Int} (hk : okSt R h l = true) (hg : Good R h l p) : Good R h l (sB R.toNat h l l.length []).1 ∧ (sB R.toNat h l l.length []).2 = cnt l R.toNat (sB R.toNat h l l.length []).1 := by
  have h0 := (best_min hk hg).1
  have hk2 := hk
  unfold okSt at hk2
  simp only [Bool.and_eq_true, inr_iff, decide_eq_true_eq] at hk2
  obtain ⟨⟨r1, r5⟩, ⟨b1, b4⟩, _⟩ := hk2
  obtain ⟨n, rfl⟩ := Int.eq_ofNat_of_zero_le (show 0 ≤ R by omega)
  unfold Good
  rw [Int.toNat_natCast] at h0 ⊢
  obtain ⟨q, e1, e2, e3, e4, e5⟩ := sB_good (n := n) (h := h) (l := l) l.length [] rfl (by
      refine List.all_eq_true.mpr fun r hr => ?_
      rw [List.eq_of_mem_replicate (show r ∈ List.replicate n [] from hr)]; exact decide_eq_true (by simp; omega)) h0
  rw [List.nil_append] at e1 e3 e4 e5
  rw [e5, e1]
  exact ⟨⟨e2, e3, e4⟩, rfl⟩
theorem dwPorts_ev {c : List Int} (hc : codeOk c) : ∀ (m : Nat) (i s : Int) (l : List Int), 0 ≤ i → i + 2 * m ≤ 999999990 → l.length + m ≤ 1000 → ∃ l' i' s', dwPorts c m i s l = some (l', i', s') ∧ l'.length = l.length + m ∧ i ≤ i' ∧ i' ≤ i + 2 * m
  | 0, i, s, l, h0, h1, h2 => ⟨l, i, s, rfl, rfl, by omega, by omega⟩
  | m + 1, i, s, l, h0, h1, h2 => by
    obtain ⟨r, j, s1, e, _, _, g1, g2⟩ := pick_ev hc (s := s) (n := 4) (i := i) ⟨h0, by omega⟩
    unfold dwPorts
    rw [e, Option.bind_some]
    dsimp only
    rw [if_pos (by omega)]
    obtain ⟨l', i', s', e2, g3, g4, g5⟩ := dwPorts_ev hc m j s1 (l ++ [wrap64 (1 + r)]) (by omega) (by omega) (by rw [List.length_append, List.length_singleton]; omega)
    rw [List.length_append, List.length_singleton] at g3
    exact ⟨l', i', s', e2, by omega, by omega, by omega⟩
theorem dwEnd_ev {c : List Int} (hc : codeOk c) (R H : Int) (ps : List Int) (z i s : Int) (h0 : 0 ≤ i ∧ i ≤ 999999990) (hp : ps.length ≤ 900) : ∃ R' H' P' i' s', dwEnd c R H ps z i s = some (R', H', P', i', s') ∧ P'.length ≤ 1000 ∧ 0 ≤ i' ∧ i' ≤ i + 2 := by
  unfold dwEnd
  split
  · obtain ⟨r, j, s1, e, _, g⟩ := among_ev hc (s := s) h0 [0, 6, 5] (by decide)
    rw [e]; exact ⟨_, _, _, _, _, rfl, by omega, by dsimp only; omega, by dsimp only; omega⟩
  split
  · obtain ⟨r, j, s1, e, _, g⟩ := among_ev hc (s := s) h0 [0, 5, 4] (by decide)
    rw [e]; exact ⟨_, _, _, _, _, rfl, by omega, by dsimp only; omega, by dsimp only; omega⟩
  split
  · obtain ⟨r, j, s1, e, _, g⟩ := among_ev hc (s := s) h0 [0, 10, 9] (by decide)
    rw [e, Option.bind_some, if_pos (by omega)]; exact ⟨_, _, _, _, _, rfl, by rw [List.length_append, List.length_singleton]; omega, by dsimp only; omega, by dsimp only; omega⟩
  split
  · obtain ⟨r, j, s1, e, g0, g1, g⟩ := pick_ev hc (s := s) (n := 2) h0
    rw [e, Option.bind_some, if_pos (by dsimp only; omega)]; exact ⟨_, _, _, _, _, rfl, by rw [List.length_take]; simp; omega, by dsimp only; omega, by dsimp only; omega⟩
  · exact ⟨_, _, _, _, _, rfl, by omega, by omega, by omega⟩
theorem least_ev (x : Int) : ∃ t, spec_l1Least.f x 6 = some t ∧ t ≤ 6 ∧ (1 ≤ x → 1 ≤ t) := by
  unfold spec_l1Least.f
  split
  · exact ⟨x, rfl, by omega, id⟩
  · exact ⟨6, rfl, by omega, by omega⟩
theorem stow_ev {c : List Int} (hc : codeOk c) : ∃ R H P i s, spec_l1Cur_stowage.f c 0 0 = some (R, H, P, i, s) ∧ P.length ≤ 1000 ∧ 0 ≤ i ∧ i ≤ 100000 := by
  unfold spec_l1Cur_stowage.f
  obtain ⟨a, i1, s1, e1, a0, a1, g1⟩ := pick_ev hc (s := 0) (n := 3) (i := 0) (by omega)
  rw [e1, Option.bind_some]
  obtain ⟨b, i2, s2, e2, b0, b1, g2⟩ := pick_ev hc (s := s1) (n := 4) (i := i1) (by omega)
  dsimp only
  rw [e2, Option.bind_some]
  have hx : 1 ≤ wrap64 (wrap64 (1 + a) * wrap64 (1 + b)) := by
    rw [wr (x := 1 + a) (by omega) (by omega), wr (x := 1 + b) (by omega) (by omega)]
    rcases (show a = 0 ∨ a = 1 ∨ a = 2 by omega) with rfl | rfl | rfl
    · rw [wr (by omega) (by omega)]; omega
    · rw [wr (by omega) (by omega)]; omega
    · rw [wr (by omega) (by omega)]; omega
  obtain ⟨t, e3, t6, t1⟩ := least_ev (wrap64 (wrap64 (1 + a) * wrap64 (1 + b)))
  have t1 := t1 hx
  dsimp only
  rw [e3, Option.bind_some, wr (x := t + 1) (by omega) (by omega)]
  obtain ⟨n, i3, s3, e4, n0, n1, g3⟩ := pick_ev hc (s := s2) (n := t + 1) (i := i2) (by omega)
  rw [e4, Option.bind_some]
  dsimp only
  rw [if_pos (by omega)]
  obtain ⟨l, i4, s4, e5, l1, g4, g5⟩ := dwPorts_ev hc n.toNat i3 s3 [] (by omega) (by omega) (by simp; omega)
  rw [e5, Option.bind_some]
  dsimp only
  obtain ⟨z, i5, s5, e6, _, _, g6⟩ := pick_ev hc (s := s4) (n := 24) (i := i4) (by omega)
  rw [e6, Option.bind_some]
  dsimp only
  obtain ⟨R, H, P, i, s, e7, p1, p2, p3⟩ := dwEnd_ev hc (wrap64 (1 + a)) (wrap64 (1 + b)) l z i5 s5 (by omega) (by simp at l1; omega)
  exact ⟨R, H, P, i, s, e7, p1, p2, by omega⟩
theorem one_ev {c : List Int} (hc : codeOk c) {i s n : Int} (hi : 0 ≤ i ∧ i ≤ 999999990) : ∃ b j s', spec_l1Cur_one.f c i s n = some (b, j, s') ∧ i ≤ j ∧ j ≤ i + 2 := by
  unfold spec_l1Cur_one.f
  obtain ⟨r, j, s1, e, _, _, g⟩ := pick_ev hc (s := s) (n := n) hi
  rw [e]
  exact ⟨_, _, _, rfl, g⟩
theorem plan_j2 {c : List Int} (hc : codeOk c) (l : List Int) (hl : l.length ≤ 1048576) (b : Bool) (hb : b = true → 0 < l.length) {i s : Int} (hi : 0 ≤ i ∧ i ≤ 999999900) : ∃ (p : List Int) (j s' : Int), Ev (fun k => spec_l1Cur_plan.j2 k l b c i s) (p, j, s') ∧ p.length ≤ 1048576 ∧ 0 ≤ j ∧ j ≤ i + 4 := by
  cases b
  · exact ⟨l, i, s, Ev.step (fun k => by simp only [spec_l1Cur_plan.j2]; rfl) (ev_neg (by simp) (ev_const rfl)), hl, by omega, by omega⟩
  · have h0 := hb rfl
    obtain ⟨q, j, s1, e, q0, q1, g⟩ := pick_ev hc (s := s) (n := (l.length : Int)) (i := i) (by omega)
    obtain ⟨z, j2, s2, e2, _, _, g2⟩ := pick_ev hc (s := s1) (n := 7) (i := j) (by omega)
    refine ⟨l.set (q : Int).toNat (wrap64 (z - 1)), j2, s2, ?_, by rw [List.length_set]; exact hl, by omega, by omega⟩
    refine Ev.step (fun k => by simp only [spec_l1Cur_plan.j2]; rfl) (ev_pos trivial (ev_call e (ev_call e2 ?_)))
    refine ev_pos q0 ?_
    refine ev_pos (by dsimp only; omega) ?_
    exact ev_const rfl
theorem plan_j1 {c : List Int} (hc : codeOk c) (l : List Int) (hl : l.length ≤ 1048576) {i s : Int} (hi : 0 ≤ i ∧ i ≤ 999999800) : ∃ (p : List Int) (j s' : Int), Ev (fun k => spec_l1Cur_plan.j1 k l c i s) (p, j, s') ∧ p.length ≤ 1048576 ∧ 0 ≤ j ∧ j ≤ i + 6 := by
  by_cases h0 : (l.length : Int) > 0
  · obtain ⟨b, j, s1, e, g⟩ := one_ev hc (s := s) (n := 10) (i := i) (by omega)
    obtain ⟨p, j2, s2, e2, g1, g2, g3⟩ := plan_j2 hc l hl b (fun _ => by omega) (i := j) (s := s1) (by omega)
    exact ⟨p, j2, s2, Ev.step (fun k => by simp only [spec_l1Cur_plan.j1]; rfl) (ev_pos h0 (ev_call e e2)), g1, g2, by omega⟩
  · obtain ⟨p, j2, s2, e2, g1, g2, g3⟩ := plan_j2 hc l hl false (fun h => by cases h) (i := i) (s := s) (by omega)
    exact ⟨p, j2, s2, Ev.step (fun k => by simp only [spec_l1Cur_plan.j1]; rfl) (ev_neg h0 e2), g1, g2, by omega⟩
theorem most_ev (x : Int) : ∃ t, spec_l1Most.f x 1 = some t := by
  unfold spec_l1Most.f
  split
  · exact ⟨_, rfl⟩
  · exact ⟨_, rfl⟩
theorem plan_l0 {c : List Int} (hc : codeOk c) (R H : Int) (P : List Int) (hP : P.length ≤ 1000) : ∀ d j (acc : List Int) (i s : Int), j + d = P.length → acc.length = j → 0 ≤ i → i + 2 * d ≤ 900000000 →
    ∃ (p : List Int) (j' s' : Int), Ev (fun k => spec_l1Cur_plan.l0 k acc (j : Int) c i s R H P) (p, j', s') ∧ p.length ≤ 1048576 ∧ 0 ≤ j' ∧ j' ≤ i + 2 * d + 10 := by
  intro d
  induction d with
  | zero =>
    intro j acc i s hj ha h0 h1
    obtain ⟨b, i1, s1, e, g⟩ := one_ev hc (s := s) (n := 2) (i := i) (by omega)
    cases b
    · obtain ⟨p, j2, s2, e2, g1, g2, g3⟩ := plan_j1 hc acc (by omega) (i := i1) (s := s1) (by omega)
      refine ⟨p, j2, s2, ?_, g1, g2, by omega⟩
      refine Ev.step (fun k => by simp only [spec_l1Cur_plan.l0]; rfl) (ev_neg (by omega) (ev_call e ?_))
      exact ev_neg (by simp) e2
    · obtain ⟨r, m, b2, e3, hr⟩ := greedy_ev R H P (by omega)
      cases b2
      · obtain ⟨p, j2, s2, e2, g1, g2, g3⟩ := plan_j1 hc acc (by omega) (i := i1) (s := s1) (by omega)
        refine ⟨p, j2, s2, ?_, g1, g2, by omega⟩
        refine Ev.step (fun k => by simp only [spec_l1Cur_plan.l0]; rfl) (ev_neg (by omega) (ev_call e ?_))
        refine ev_pos rfl (Ev.bind e3 ?_)
        exact ev_neg (by simp) e2
      · obtain ⟨p, j2, s2, e2, g1, g2, g3⟩ := plan_j1 hc r hr (i := i1) (s := s1) (by omega)
        refine ⟨p, j2, s2, ?_, g1, g2, by omega⟩
        refine Ev.step (fun k => by simp only [spec_l1Cur_plan.l0]; rfl) (ev_neg (by omega) (ev_call e ?_))
        refine ev_pos rfl (Ev.bind e3 ?_)
        exact ev_pos rfl e2
  | succ d ih =>
    intro j acc i s hj ha h0 h1
    have hlt : j < P.length := by omega
    obtain ⟨t, et⟩ := most_ev R
    obtain ⟨r, i1, s1, e, _, _, g⟩ := pick_ev hc (s := s) (n := t) (i := i) (by omega)
    obtain ⟨p, j2, s2, e2, g1, g2, g3⟩ := ih (j + 1) (acc ++ [r]) i1 s1 (by omega) (by rw [List.length_append, ha]; rfl) (by omega) (by omega)
    refine ⟨p, j2, s2, ?_, g1, g2, by omega⟩
    refine Ev.step (fun k => by simp only [spec_l1Cur_plan.l0]; rfl) (ev_pos (by omega) (ev_call et (ev_call e ?_)))
    rw [wsucc hlt (by omega)]
    exact ev_pos (by omega) e2
theorem vints_l (l : List Int) (hn : l.length ≤ 1048576) : ∀ d i, i + d = l.length → Ev (fun k => laws_vInts.l0 k l l (i : Int)) true := by
  intro d
  induction d with
  | zero => intro i hi; exact Ev.step (fun k => by simp only [laws_vInts.l0]; rfl) (ev_neg (by omega) (ev_const rfl))
  | succ d ih =>
    intro i hi
    have hlt : i < l.length := by omega
    refine Ev.step (fun k => by simp only [laws_vInts.l0]; rfl) (ev_pos (by omega) (ev_pos (by omega) (ev_pos (by omega) ?_)))
    rw [wsucc hlt (by omega)]
    exact ev_pos trivial (ih (i + 1) (by omega))
theorem vints_ev (l : List Int) (hn : l.length ≤ 1048576) : Ev (fun k => laws_vInts.f k l l) true := by
  unfold laws_vInts.f
  exact ev_pos rfl (vints_l l hn l.length 0 (by omega))
/-! The law. -/
theorem draw_ev {c : List Int} (hc : codeOk c) : ∃ (R H : Int) (P pl : List Int), Ev (fun k => spec_DrawShiftedBoxes.f k c) (R, H, P, pl) ∧ P.length ≤ 1000 ∧ pl.length ≤ 1048576 := by
  unfold spec_DrawShiftedBoxes.f spec_DrawPlanBay.f
  obtain ⟨R, H, P, i, s, e, p1, p2, p3⟩ := stow_ev hc
  obtain ⟨pl, i2, s2, e2, g1, g2, g3⟩ := plan_l0 hc R H P p1 P.length 0 [] i s (by omega) rfl p2 (by omega)
  refine ⟨R, H, P, pl, ?_, p1, g1⟩
  refine Ev.bind (a := (R, H, P, pl)) ?_ (ev_const rfl)
  refine ev_call e (Ev.bind (show Ev (fun k => spec_l1Cur_plan.f k c i s R H P) (pl, i2, s2) from e2) ?_)
  exact ev_const rfl
theorem law_j0 {R h : Int} {P : List Int} (hn : P.length ≤ 1000) : Ev (fun k => laws_FnStowage.j0 k (bestV R h P).1 (bestV R h P).2.1 (bestV R h P).2.2 false R h P) true := by
  obtain ⟨r, m, g1, g2, g3, g4, g5⟩ := greedy_both R h P (by omega)
  refine Ev.step (fun k => by simp only [laws_FnStowage.j0]; rfl) ?_
  refine ev_neg (by simp) (ev_call g2 (Ev.bind g1 ?_))
  refine ev_neg (by simp) ?_
  refine ev_pos rfl ?_
  refine Ev.bind (vints_ev _ g3) ?_
  refine ev_pos rfl ?_
  cases hk : okSt R h P
  · have hb : bestV R h P = ([], 0, false) := by unfold bestV; rw [hk, if_neg (by simp)]
    rw [hb]
    refine ev_neg (by simp) ?_
    refine ev_neg (by have := g4 hk; dsimp only; omega) ?_
    exact ev_neg (by simp) (ev_const (by simp))
  · obtain ⟨g6, g7⟩ := g5 hk
    have hb : bestV R h P = ((sB R.toNat h P P.length []).1, (sB R.toNat h P P.length []).2, true) := by unfold bestV; rw [hk, if_pos rfl]
    have m1 := best_min hk g6
    obtain ⟨m2, m3⟩ := best_good hk g6
    have hp := good_parts (by omega) hk m2
    obtain ⟨_, s2⟩ := sh_both hp
    have hp2 := hp.2.1
    rw [if_pos rfl] at hp2
    obtain ⟨p1, p2, p3, p4, p5, p6, p7, p8, p9, p10⟩ := hp.2.2 rfl
    unfold shV at s2
    rw [if_pos rfl] at s2
    rw [hb]
    refine ev_neg (by simp) ?_
    refine ev_neg (by dsimp only; omega) ?_
    refine ev_pos rfl ?_
    refine Ev.bind s2 ?_
    refine Ev.bind (a := (h, tabOf R.toNat (sB R.toNat h P P.length []).1, true)) ?_ ?_
    · unfold impl_PlanBay.f
      exact Ev.bind hp2 (ev_const rfl)
    refine ev_pos rfl ?_
    refine ev_pos (by dsimp only; exact m3.symm) ?_
    refine ev_pos rfl ?_
    have hok : okBay h (tabOf R.toNat (sB R.toNat h P P.length []).1) = true := by
      have hk2 := hk
      unfold okSt at hk2
      simp only [Bool.and_eq_true, decide_eq_true_eq] at hk2
      obtain ⟨hr, hh, h7, _⟩ := hk2
      have hr2 := inr_iff.mp hr
      obtain ⟨n, rfl⟩ := Int.eq_ofNat_of_zero_le (show 0 ≤ R by omega)
      rw [Int.toNat_natCast] at m2 ⊢
      have g := m2.2.2
      rw [Int.toNat_natCast] at g
      exact (okBay_fill h hh n (by omega) _ (by have := m2.1; omega) m2.2.1).trans g
    refine ev_call (show impl_IsValidBay.f h (tabOf R.toNat (sB R.toNat h P P.length []).1) = some true from congrArg some hok) ?_
    refine ev_pos rfl (ev_const ?_)
    dsimp only
    rw [p7]; simp
theorem law_true {l0 : List Int} (hl : l0.length ≤ 9223372036854775807) (hw : ∀ x, x ∈ l0 → 0 ≤ x ∧ x ≤ 255) : Ev (fun k => laws_FnStowage.f k l0) true := by
  unfold laws_FnStowage.f
  have hb : laws_vBig.f l0 = some (decide ((l0.length : Int) > 65536)) := rfl
  refine ev_call hb ?_
  by_cases hbig : (l0.length : Int) > 65536
  · rw [decide_eq_true hbig]; exact ev_pos rfl (ev_const rfl)
  rw [decide_eq_false hbig]
  refine ev_neg (by simp) ?_
  obtain ⟨R, h, P, pl, e, p1, p2⟩ := draw_ev (c := l0) ⟨by omega, hw⟩
  obtain ⟨b1, b2⟩ := best_both R h P (by omega)
  obtain ⟨ok, b, hp⟩ := plan_parts R h P (by omega) pl p2
  obtain ⟨s1, s2⟩ := sh_both hp
  have hsm := sh_small hp
  have hbl : (bestV R h P).1.length ≤ 1048576 := by
    unfold bestV
    split
    · have := sB_len R.toNat h P P.length []
      rw [List.length_nil] at this
      dsimp only
      omega
    · simp
  have hbk : (bestV R h P).2.2 = okSt R h P := by
    unfold bestV
    cases okSt R h P
    · rw [if_neg (by simp)]
    · rw [if_pos rfl]
  refine Ev.bind e ?_
  refine Ev.bind b2 ?_
  refine Ev.bind b1 ?_
  refine ev_neg (by simp) ?_
  refine ev_pos rfl ?_
  refine Ev.bind (vints_ev _ hbl) ?_
  refine ev_pos rfl ?_
  refine ev_call (show impl_IsValidStowage.f R h P = some (okSt R h P) from rfl) ?_
  refine ev_neg (by rw [hbk]; simp) ?_
  refine Ev.bind s2 ?_
  refine Ev.bind s1 ?_
  refine ev_neg (by simp) ?_
  refine Ev.bind (vints_ev _ (by omega)) ?_
  refine ev_pos rfl ?_
  have hj := law_j0 (R := R) (h := h) (P := P) p1
  cases ok
  · exact ev_neg (by unfold shV; simp) hj
  · refine ev_pos (by unfold shV; simp) ?_
    obtain ⟨q1, q2, q3, q4, q5, q6, q7, q8, q9, q10, q11, q12, q13⟩ := hp.2.2 rfl
    have hgd : Good R h P pl := ⟨q11, q10, (show low h (fill pl pl.length 0 (List.replicate R.toNat [])) = true by rw [← q12]; exact q13)⟩
    have hm := (best_min q8 hgd).2
    have hsh : (shV true P b).1 = puts [] (shA P (tabOf R.toNat pl)) := by unfold shV; rw [if_pos rfl, q12]
    have hbv : (bestV R h P).2.1 = (sB R.toNat h P P.length []).2 := by unfold bestV; rw [q8, if_pos rfl]
    have hlt : ¬ (((shV true P b).1.length : Int) < (bestV R h P).2.1) := by rw [hsh, hbv]; exact Int.not_lt.mpr hm
    rw [decide_eq_false hlt]
    exact hj
end Go.Proofs.Ytipahijdcgoemaa.UB
