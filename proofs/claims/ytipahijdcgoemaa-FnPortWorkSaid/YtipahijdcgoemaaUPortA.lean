/- What the law takes over from the laws of its parts. -/
import Derived.Test.YtipahijdcgoemaaPx0
import Derived.Test.YtipahijdcgoemaaPx12
import Derived.Test.YtipahijdcgoemaaPx13
import Derived.Test.YtipahijdcgoemaaPx22
import Derived.Test.YtipahijdcgoemaaPx23
import Derived.Test.YtipahijdcgoemaaPx3
import Derived.Test.YtipahijdcgoemaaPx4
import Derived.Test.YtipahijdcgoemaaPx9
import Derived.Test.YtipahijdcgoemaaU
import Derived.Laws.BitsLemmas
import Derived.Sort.LotA
namespace Go.Proofs.Ytipahijdcgoemaa.UT
open Go.RowKit Go.Proofs.YtipahijdcgoemaaW.PrintWords Go.Proofs.YtipahijdcgoemaaW.PrintMore Go.Proofs.Ytipahijdcgoemaa.P Go.Proofs.Ytipahijdcgoemaa.U
set_option linter.unusedVariables false
theorem rd_l1 (l : List (List Int)) (i : Nat) (h : i < l.length) : rd_L2 l (i : Int) = l[i] := by
 unfold rd_L2
 rw [Int.toNat_natCast]
 exact getD_at l i _ h
theorem in_spec (a b c : Int) : spec_l1In.f a b c = some (inr a b c) := by
 unfold spec_l1In.f inr
 by_cases h : b ≤ a <;> simp [h]
theorem has_l (l : List Int) (v : Int) (hn : l.length ≤ 9223372036854775807) : ∀ d i, i + d = l.length → Ev (fun k => spec_l1Has.l0 k l v (i : Int)) ((l.drop i).contains v) := by
 intro d
 induction d with
 | zero =>
  intro i hi
  refine Ev.step (fun k => by simp only [spec_l1Has.l0]; rfl) (ev_neg (by omega) (ev_const ?_))
  rw [List.drop_of_length_le (by omega)]; rfl
 | succ d ih =>
  intro i hi
  have hlt : i < l.length := by omega
  refine Ev.step (fun k => by simp only [spec_l1Has.l0]; rfl) ?_
  refine ev_pos (by omega) (ev_pos (by omega) ?_)
  rw [rd_at l i hlt, wsucc hlt hn, List.drop_eq_getElem_cons hlt, List.contains_cons]
  by_cases e : l[i] = v
  ·exact ev_eq (ev_pos e (ev_const rfl)) (by simp [e])
  exact ev_eq (ev_neg e (ih (i + 1) (by omega))) (by simp [Ne.symm e])
theorem has_ev (l : List Int) (v : Int) (hn : l.length ≤ 9223372036854775807) : Ev (fun k => spec_l1Has.f k l v) (l.contains v) := by
 unfold spec_l1Has.f
 exact has_l l v hn l.length 0 (by omega)
end Go.Proofs.Ytipahijdcgoemaa.UT
namespace Go.Proofs.Ytipahijdcgoemaa.UB
open Go.RowKit Go.Proofs.YtipahijdcgoemaaW.PrintWords Go.Proofs.YtipahijdcgoemaaW.PrintMore Go.Proofs.Ytipahijdcgoemaa.P Go.Proofs.Ytipahijdcgoemaa.U Go.Proofs.Ytipahijdcgoemaa.UT
set_option linter.unusedVariables false
def okBay (h : Int) (l : List (List Int)) : Bool := inr h 1 4 && (inr (l.length : Int) 1 5 && (chkRows h l []).isSome)
theorem contains_rev (s : List Int) (n : Int) : s.reverse.contains n = s.contains n := by
 rw [Bool.eq_iff_iff]; simp
/-- The reference's loops: what is left of the check. -/
theorem good_l (h : Int) (l : List (List Int)) (hn : l.length ≤ 9223372036854775807) (hx : ∀ x, x ∈ l → x.length ≤ 1048576) : ∀ d i (s : List Int), i + d = l.length → s.length ≤ i * 1048576 → l.length ≤ 1048576 →
    Ev (fun k => spec_l9Good.l0 k s.reverse (i : Int) h l) ((chkRows h (l.drop i) s).isSome) := by
 intro d
 induction d with
 | zero =>
  intro i s hi hs _
  refine Ev.step (fun k => by simp only [spec_l9Good.l0]; rfl) ?_
  refine ev_neg (by omega) (ev_const ?_)
  rw [List.drop_of_length_le (by omega)]; rfl
 | succ d ih =>
  intro i s hi hs hll
  have hlt : i < l.length := by omega
  refine Ev.step (fun k => by simp only [spec_l9Good.l0]; rfl) ?_
  refine ev_pos (by omega) (ev_pos (by omega) ?_)
  rw [rd_l1 l i hlt, List.drop_eq_getElem_cons hlt]
  have hxi := hx _ (List.getElem_mem hlt)
  unfold chkRows
  by_cases hc : (l[i].length : Int) ≤ h
  rotate_left
  ·rw [if_neg hc]
   exact ev_pos (by omega) (ev_const rfl)
  rw [if_pos hc]
  refine ev_neg (by omega) ?_
  have inner : ∀ e j (s : List Int), j + e = l[i].length → s.length ≤ i * 1048576 + j → Ev (fun k => spec_l9Good.l1 k s.reverse (i : Int) (j : Int) h l) (((chkRow (l[i].drop j) s).bind (chkRows h (l.drop (i + 1)))).isSome) := by
    intro e
    induction e with
    | zero =>
      intro j s hj hs
      refine Ev.step (fun k => by simp only [spec_l9Good.l1]; rfl) ?_
      refine ev_pos (by omega) (ev_pos (by omega) ?_)
      rw [rd_l1 l i hlt, wsucc hlt hn]
      refine ev_neg (by omega) ?_
      rw [List.drop_of_length_le (by omega)]
      exact ih (i + 1) s (by omega) (by omega) hll
    | succ e ihe =>
      intro j s hj hs
      have hjt : j < l[i].length := by omega
      refine Ev.step (fun k => by simp only [spec_l9Good.l1]; rfl) ?_
      refine ev_pos (by omega) (ev_pos (by omega) ?_)
      rw [rd_l1 l i hlt, rd_at _ j hjt, wsucc hjt (by omega), List.drop_eq_getElem_cons hjt]
      refine ev_pos (by omega) (ev_pos (by omega) ?_)
      refine ev_call (in_spec _ _ _) ?_
      cases h1 : inr l[i][j] 1 99
      · exact ev_eq (ev_neg (by simp) (ev_const rfl)) (by rw [chkRow_bad (by rw [h1]; rfl)]; rfl)
      refine ev_pos rfl ?_
      have hh := has_ev s.reverse l[i][j] (by rw [List.length_reverse]; omega)
      rw [contains_rev] at hh
      refine Ev.bind hh ?_
      cases h2 : s.contains l[i][j]
      · refine ev_neg (by simp) (ev_pos (by rw [List.length_reverse]; omega) ?_)
        rw [chkRow_ok (by rw [h1, h2]; rfl)]
        have e2 := ihe (j + 1) (l[i][j] :: s) (by omega) (by rw [List.length_cons]; omega)
        rw [List.reverse_cons] at e2
        exact e2
      · exact ev_eq (ev_pos rfl (ev_const rfl)) (by rw [chkRow_bad (by rw [h1, h2]; rfl)]; rfl)
  exact inner l[i].length 0 s (by omega) (Nat.le_trans hs (Nat.le_add_right _ _))
theorem good_spec (h : Int) (l : List (List Int)) (hn : l.length ≤ 1048576) (hx : ∀ x, x ∈ l → x.length ≤ 1048576) : Ev (fun k => spec_l9Good.f k h l) (okBay h l) := by
 unfold spec_l9Good.f okBay
 refine ev_call (in_spec _ _ _) ?_
 cases h1 : inr h 1 4
 ·refine ev_neg (by simp) ?_
  refine Ev.step (fun k => by simp only [spec_l9Good.j0]; rfl) ?_
  exact ev_pos (by simp) (ev_const rfl)
 refine ev_pos rfl (ev_call (in_spec _ _ _) ?_)
 cases h2 : inr (l.length : Int) 1 5
 ·refine Ev.step (fun k => by simp only [spec_l9Good.j0]; rfl) ?_
  exact ev_pos (by simp) (ev_const rfl)
 refine Ev.step (fun k => by simp only [spec_l9Good.j0]; rfl) ?_
 exact ev_neg (by simp) (good_l h l (by omega) hx l.length 0 [] (by omega) (by simp) hn)
end Go.Proofs.Ytipahijdcgoemaa.UB
namespace Go.Proofs.Ytipahijdcgoemaa.UB
open Go.RowKit Go.Proofs.YtipahijdcgoemaaW.PrintWords Go.Proofs.YtipahijdcgoemaaW.PrintMore Go.Proofs.Ytipahijdcgoemaa.P Go.Proofs.Ytipahijdcgoemaa.U Go.Proofs.Ytipahijdcgoemaa.UT
set_option linter.unusedVariables false
theorem in_impl (a b c : Int) : impl_within.f a b c = some (inr a b c) := by
 unfold impl_within.f inr
 by_cases h : b ≤ a <;> simp [h]
theorem all_not_any (p : Int → Bool) : ∀ l : List Int, l.all p = !(l.any fun x => !p x)
  | [] => rfl
  | x :: l => by rw [List.all_cons, List.any_cons, all_not_any p l]; cases p x <;> simp
/-! Stowages. -/
theorem ports_l (a b : Int) (l : List Int) (hn : l.length ≤ 9223372036854775807) : ∀ d i, i + d = l.length → Ev (fun k => spec_l10Good.l0 k (i : Int) a b l) ((l.drop i).all (fun x => inr x 1 9)) := by
 intro d
 induction d with
 | zero =>
  intro i hi
  refine Ev.step (fun k => by simp only [spec_l10Good.l0]; rfl) ?_
  refine ev_neg (by omega) (ev_const ?_)
  rw [List.drop_of_length_le (by omega)]; simp
 | succ d ih =>
  intro i hi
  have hlt : i < l.length := by omega
  refine Ev.step (fun k => by simp only [spec_l10Good.l0]; rfl) ?_
  rw [rd_at l i hlt, wsucc hlt hn, List.drop_eq_getElem_cons hlt, List.all_cons]
  refine ev_pos (by omega) (ev_pos (by omega) (ev_call (in_spec _ _ _) ?_))
  cases h : inr l[i] 1 9
  ·exact ev_neg (by simp) (ev_const (by simp))
  exact ev_eq (ev_pos rfl (ih (i + 1) (by omega))) (by simp)
theorem st_spec (a b : Int) (l : List Int) (hn : l.length ≤ 9223372036854775807) : Ev (fun k => spec_l10Good.f k a b l) (okSt a b l) := by
 unfold spec_l10Good.f okSt
 have fs : Ev (fun k => spec_l10Good.j0 k true a b l) false := by
   refine Ev.step (fun k => by simp only [spec_l10Good.j0]; rfl) ?_
   exact ev_pos (by simp) (ev_const rfl)
 refine ev_call (in_spec _ _ _) ?_
 cases h1 : inr a 1 5
 ·exact ev_neg (by simp) fs
 refine ev_pos rfl (ev_call (in_spec _ _ _) ?_)
 cases h2 : inr b 1 4
 ·exact ev_neg (by simp) fs
 refine ev_pos rfl ?_
 have hp := impl_IsValidStowage.prod h1 h2
 rw [hp]
 by_cases h3 : (l.length : Int) ≤ 7
 rotate_left
 ·rw [decide_eq_false h3]
  exact ev_eq (ev_pos (by omega) fs) (by simp)
 refine ev_neg (by omega) ?_
 rw [decide_eq_true h3]
 by_cases h4 : (l.length : Int) ≤ a * b
 rotate_left
 ·rw [decide_eq_false h4]
  refine Ev.step (fun k => by simp only [spec_l10Good.j0]; rfl) ?_
  exact ev_pos (by simp; omega) (ev_const (by simp))
 rw [decide_eq_true h4]
 refine Ev.step (fun k => by simp only [spec_l10Good.j0]; rfl) ?_
 refine ev_neg (by simp; omega) ?_
 exact ev_eq (ports_l a b l hn l.length 0 (by omega)) (by rw [List.drop_zero, all_not_any]; simp)
end Go.Proofs.Ytipahijdcgoemaa.UB
namespace Go.Proofs.Ytipahijdcgoemaa.US
set_option linter.unusedVariables false
/-- A number put into a rising list, once. -/
def put : List Int → Int → List Int
  | [], n => [n]
  | x :: l, n => if x < n then x :: put l n else if x = n then x :: l else n :: x :: l
theorem put_mem (n y : Int) : ∀ (l : List Int), y ∈ put l n ↔ y = n ∨ y ∈ l
  | [] => by simp [put]
  | x :: l => by
    unfold put
    split
    · rw [List.mem_cons, put_mem n y l, List.mem_cons]; grind
    · split
      · rename_i h; subst h; simp
      · simp
theorem put_rising (n : Int) : ∀ (l : List Int), l.Pairwise (· < ·) → (put l n).Pairwise (· < ·)
  | [], _ => by simp [put]
  | x :: l, h => by
    obtain ⟨h1, h2⟩ := List.pairwise_cons.mp h
    unfold put
    split
    · rename_i hx
      refine List.pairwise_cons.mpr ⟨fun y hy => ?_, put_rising n l h2⟩
      rcases (put_mem n y l).mp hy with rfl | hy
      · exact hx
      · exact h1 y hy
    · split
      · exact h
      · rename_i hx hn
        refine List.pairwise_cons.mpr ⟨fun y hy => ?_, h⟩
        rcases List.mem_cons.mp hy with rfl | hy
        · omega
        · have := h1 y hy; omega
theorem put_len (n : Int) : ∀ (l : List Int), (put l n).length ≤ l.length + 1
  | [] => by simp [put]
  | x :: l => by
    unfold put
    split
    · rw [List.length_cons, List.length_cons]; have := put_len n l; omega
    · split <;> simp
theorem eq_of_mem : ∀ (a b : List Int), a.Pairwise (· < ·) → b.Pairwise (· < ·) → (∀ x, x ∈ a ↔ x ∈ b) → a = b
  | [], [], _, _, _ => rfl
  | [], y :: b, _, _, h => by have := (h y).mpr List.mem_cons_self; cases this
  | x :: a, [], _, _, h => by have := (h x).mp List.mem_cons_self; cases this
  | x :: a, y :: b, ha, hb, h => by
    obtain ⟨a1, a2⟩ := List.pairwise_cons.mp ha
    obtain ⟨b1, b2⟩ := List.pairwise_cons.mp hb
    have hxy : x = y := by
      rcases List.mem_cons.mp ((h x).mp List.mem_cons_self) with e | hx
      · exact e
      · rcases List.mem_cons.mp ((h y).mpr List.mem_cons_self) with e | hy
        · exact e.symm
        · have := b1 x hx; have := a1 y hy; omega
    subst hxy
    rw [eq_of_mem a b a2 b2 (fun z => ?_)]
    constructor
    · intro hz
      rcases List.mem_cons.mp ((h z).mp (List.mem_cons_of_mem _ hz)) with rfl | hz2
      · have := a1 z hz; omega
      · exact hz2
    · intro hz
      rcases List.mem_cons.mp ((h z).mpr (List.mem_cons_of_mem _ hz)) with rfl | hz2
      · have := b1 z hz; omega
      · exact hz2
theorem sort_rising (l : List Int) (h : l.Nodup) : (l.mergeSort fun x y => decide (x ≤ y)).Pairwise (· < ·) := by
 have h1 := List.pairwise_mergeSort (le := fun (x y : Int) => decide (x ≤ y)) (fun a b c h1 h2 => by simp at *; omega) (fun a b => by simp; omega) l
 have h2 : (l.mergeSort fun x y => decide (x ≤ y)).Nodup := ((List.mergeSort_perm l _).nodup_iff).mpr h
 exact (h1.and h2).imp (fun {a b} hab => by
   have h3 : a ≤ b := of_decide_eq_true hab.1
   have h4 : a ≠ b := hab.2
   omega)
/-- Numbers put one behind the other. -/
def puts : List Int → List Int → List Int
  | acc, [] => acc
  | acc, n :: l => puts (put acc n) l
theorem puts_mem (y : Int) : ∀ (l acc : List Int), y ∈ puts acc l ↔ y ∈ acc ∨ y ∈ l
  | [], acc => by simp [puts]
  | n :: l, acc => by rw [puts, puts_mem y l, put_mem, List.mem_cons]; grind
theorem puts_rising : ∀ (l acc : List Int), acc.Pairwise (· < ·) → (puts acc l).Pairwise (· < ·)
  | [], acc, h => h
  | n :: l, acc, h => puts_rising l _ (put_rising n acc h)
theorem puts_app : ∀ (a b acc : List Int), puts acc (a ++ b) = puts (puts acc a) b
  | [], b, acc => rfl
  | n :: a, b, acc => by rw [List.cons_append, puts, puts_app a b]; rfl
theorem puts_len : ∀ (l acc : List Int), (puts acc l).length ≤ acc.length + l.length
  | [], acc => by simp [puts]
  | n :: l, acc => by
    rw [puts, List.length_cons]
    have h1 := puts_len l (put acc n)
    have h2 := put_len n acc
    omega
theorem sort_puts (l : List Int) (h : l.Nodup) : (l.mergeSort fun x y => decide (x ≤ y)) = puts [] l :=
  eq_of_mem _ _ (sort_rising l h) (puts_rising l [] List.Pairwise.nil) (fun x => by rw [List.mem_mergeSort, puts_mem]; simp)
/-- Where a number is put: behind the smaller ones. -/
def lead (n : Int) : List Int → Nat
  | [] => 0
  | x :: l => if x < n then lead n l + 1 else 0
theorem lead_le (n : Int) : ∀ (l : List Int), lead n l ≤ l.length
  | [] => Nat.le_refl _
  | x :: l => by
    unfold lead
    split
    · rw [List.length_cons]; have := lead_le n l; omega
    · simp
theorem put_eq (n : Int) : ∀ (l : List Int), put l n = if l[lead n l]? = some n then l else l.take (lead n l) ++ [n] ++ l.drop (lead n l)
  | [] => by simp [put, lead]
  | x :: l => by
    unfold put lead
    by_cases h : x < n
    · rw [if_pos h, if_pos h, put_eq n l, List.getElem?_cons_succ]
      split
      · rfl
      · simp
    · rw [if_neg h, if_neg h]
      by_cases h2 : x = n
      · subst h2; simp
      · rw [if_neg h2, if_neg (by simp [h2])]; simp
/-! A valid table's numbers are each there once. -/
open Go.Proofs.Ytipahijdcgoemaa.U
theorem chkRow_once : ∀ (l s t : List Int), chkRow l s = some t → (∀ x, x ∈ t ↔ x ∈ s ∨ x ∈ l) ∧ l.Nodup ∧ ∀ x, x ∈ l → ¬ x ∈ s
  | [], s, t, h => by injection h with h; subst h; simp
  | n :: l, s, t, h => by
    unfold chkRow at h
    split at h
    · rename_i hc
      rw [Bool.and_eq_true] at hc
      have hn : ¬ n ∈ s := by simpa using hc.2
      obtain ⟨h1, h2, h3⟩ := chkRow_once l (n :: s) t h
      refine ⟨fun x => by rw [h1, List.mem_cons, List.mem_cons]; grind, List.nodup_cons.mpr ⟨fun hm => h3 n hm List.mem_cons_self, h2⟩, fun x hx hs => ?_⟩
      rcases List.mem_cons.mp hx with rfl | hx
      · exact hn hs
      · exact h3 x hx (List.mem_cons_of_mem _ hs)
    · cases h
theorem chkRows_once (cap : Int) : ∀ (l : List (List Int)) (s t : List Int), chkRows cap l s = some t → (∀ x, x ∈ t ↔ x ∈ s ∨ x ∈ l.flatten) ∧ l.flatten.Nodup ∧ ∀ x, x ∈ l.flatten → ¬ x ∈ s
  | [], s, t, h => by injection h with h; subst h; simp
  | r :: l, s, t, h => by
    unfold chkRows at h
    split at h
    · cases h1 : chkRow r s with
      | none => rw [h1] at h; cases h
      | some u =>
        rw [h1] at h
        obtain ⟨a1, a2, a3⟩ := chkRow_once r s u h1
        obtain ⟨b1, b2, b3⟩ := chkRows_once cap l u t h
        rw [List.flatten_cons]
        refine ⟨fun x => by rw [b1, a1, List.mem_append]; grind, List.nodup_append.mpr ⟨a2, b2, fun x hx y hy e => ?_⟩, fun x hx hs => ?_⟩
        · subst e; exact b3 x hy ((a1 x).mpr (Or.inr hx))
        · rcases List.mem_append.mp hx with hx | hx
          · exact a3 x hx hs
          · exact b3 x hx ((a1 x).mpr (Or.inl hs))
    · cases h
end Go.Proofs.Ytipahijdcgoemaa.US
namespace Go.Proofs.Ytipahijdcgoemaa.UB
open Go.RowKit Go.Proofs.YtipahijdcgoemaaW.PrintWords Go.Proofs.YtipahijdcgoemaaW.PrintMore Go.Proofs.Ytipahijdcgoemaa.P Go.Proofs.Ytipahijdcgoemaa.U Go.Proofs.Ytipahijdcgoemaa.UT
set_option linter.unusedVariables false
theorem rdl_mem {l : List (List Int)} {s : Int} (h0 : 0 ≤ s) (h1 : s < (l.length : Int)) : rd_L2 l s ∈ l := by
 obtain ⟨n, rfl⟩ := Int.eq_ofNat_of_zero_le h0
 have h : n < l.length := by omega
 rw [show rd_L2 l (n : Int) = l[n] from rd_l1 l n h]
 exact List.getElem_mem h
/-! One number more on a stack. -/
def push (l : List (List Int)) (s n : Int) : List (List Int) := l.set s.toNat (rd_L2 l s ++ [n])
theorem push_len (l : List (List Int)) (s n : Int) : (push l s n).length = l.length := by simp [push]
theorem push_mem {l : List (List Int)} {s n : Int} {x : List Int} (h : x ∈ push l s n) : x ∈ l ∨ x = rd_L2 l s ++ [n] := List.mem_or_eq_of_mem_set h
theorem getD_out (l : List (List Int)) (j : Nat) (h : l.length ≤ j) : l.getD j [] = [] := by simp [List.getD, List.getElem?_eq_none h]
def fill (p : List Int) : Nat → Nat → List (List Int) → List (List Int)
  | 0, _, out => out
  | d + 1, i, out => fill p d (i + 1) (push out (p.getD i 0) ((i : Int) + 1))
theorem fill_len (p : List Int) : ∀ d i (out : List (List Int)), (fill p d i out).length = out.length
  | 0, _, _ => rfl
  | d + 1, i, out => by rw [fill, fill_len p d, push_len]
def rng (R : Int) (p : List Int) : Bool := p.all fun s => inr s 0 (R - 1)
def low (h : Int) (l : List (List Int)) : Bool := l.all fun r => decide ((r.length : Int) ≤ h)
/-- A row only grows. -/
theorem push_ge (l : List (List Int)) (s n : Int) (j : Nat) : (l.getD j []).length ≤ ((push l s n).getD j []).length := by
 unfold push
 by_cases hj : j < l.length
 rotate_left
 ·rw [getD_out _ _ (by omega)]; simp
 have hj2 : j < (l.set s.toNat (rd_L2 l s ++ [n])).length := by rw [List.length_set]; exact hj
 rw [getD_at _ _ _ hj, getD_at _ _ _ hj2, List.getElem_set]
 split
 ·rename_i he
  have e : rd_L2 l s = l[j] := by
    unfold rd_L2
    rw [he]
    exact getD_at l j _ hj
  rw [e, List.length_append]; omega
 exact Nat.le_refl _
theorem fill_ge (p : List Int) (j : Nat) : ∀ d i (out : List (List Int)), (out.getD j []).length ≤ ((fill p d i out).getD j []).length
  | 0, _, _ => Nat.le_refl _
  | d + 1, i, out => by
    rw [fill]
    exact Nat.le_trans (push_ge out _ _ j) (fill_ge p j d (i + 1) _)
theorem low_at {h : Int} {l : List (List Int)} (hl : low h l = true) (j : Nat) (hj : j < l.length) : ((l.getD j []).length : Int) ≤ h := by
 rw [getD_at _ _ _ hj]
 exact of_decide_eq_true (List.all_eq_true.mp hl _ (List.getElem_mem hj))
/-- What the program's loop comes to. -/
theorem loop_impl (R h : Int) (ports p : List Int) (hR : R ≤ 5) (hh : h ≤ 4) (hp : p.length ≤ 7) : ∀ d i (out : List (List Int)), i + d = p.length → (out.length : Int) = R → low h out = true →
    Ev (fun k => impl_planBay.l0 k p (p.length : Int) (i : Int) R h ports h out) (if rng R (p.drop i) = true ∧ low h (fill p d i out) = true then (h, fill p d i out, true) else (0, [], false)) := by
 intro d
 induction d with
 | zero =>
  intro i out hi ho hl
  refine Ev.step (fun k => by simp only [impl_planBay.l0]; rfl) (ev_neg (by omega) (ev_const ?_))
  rw [List.drop_of_length_le (by omega), if_pos ⟨rfl, hl⟩]; rfl
 | succ d ih =>
  intro i out hi ho hl
  have hlt : i < p.length := by omega
  refine Ev.step (fun k => by simp only [impl_planBay.l0]; rfl) (ev_pos (by omega) (ev_pos (by omega) (ev_pos (by omega) ?_)))
  rw [rd_at p i hlt, wsucc hlt (by omega), wr (x := R - 1) (by omega) (by omega), List.drop_eq_getElem_cons hlt]
  refine ev_call (in_impl _ _ _) ?_
  unfold rng
  rw [List.all_cons]
  cases hk : inr p[i] 0 (R - 1)
  ·rw [if_neg (by simp)]
   exact ev_neg (by simp) (ev_const rfl)
  obtain ⟨h0, h1⟩ := inr_iff.mp hk
  have hlt2 : p[i].toNat < out.length := by omega
  have e : rd_L2 out p[i] = out.getD p[i].toNat [] := rfl
  have hb := low_at hl p[i].toNat hlt2
  unfold fill
  rw [getD_at p i 0 hlt, Bool.true_and]
  refine ev_pos rfl (ev_pos h0 (ev_pos (by omega) ?_))
  by_cases hc : ((rd_L2 out p[i]).length : Int) = h
  ·refine ev_eq (ev_pos hc (ev_const rfl)) ?_
   rw [if_neg]
   rintro ⟨_, hf⟩
   have hlen : p[i].toNat < (fill p d (i + 1) (push out p[i] ((i : Int) + 1))).length := by rw [fill_len, push_len]; exact hlt2
   have h2 := low_at hf p[i].toNat hlen
   have h3 := fill_ge p p[i].toNat d (i + 1) (push out p[i] ((i : Int) + 1))
   have h4 : ((push out p[i] ((i : Int) + 1)).getD p[i].toNat []).length = (rd_L2 out p[i]).length + 1 := by
     unfold push
     rw [set_getD _ _ _ hlt2, List.length_append, List.length_singleton]
   omega
  rw [e] at hc
  have hlow : low h (push out p[i] ((i : Int) + 1)) = true := by
    refine List.all_eq_true.mpr fun r hr => decide_eq_true ?_
    rcases push_mem hr with hr | rfl
    · exact of_decide_eq_true (List.all_eq_true.mp hl _ hr)
    · rw [List.length_append, List.length_singleton, e]; omega
  have hi2 := ih (i + 1) (push out p[i] ((i : Int) + 1)) (by omega) (by rw [push_len]; exact ho) hlow
  refine ev_neg (by rw [e]; exact hc) (ev_pos (by rw [e]; omega) ?_)
  have e2 : ((i + 1 : Nat) : Int) = (i : Int) + 1 := by omega
  rw [e2] at hi2 ⊢
  exact hi2
/-- The reference's bay. -/
theorem bay1 (h : Int) (n : Nat) (p : List Int) (hn : n ≤ 5) (hp : p.length ≤ 1048576) (hr : rng n p = true) : ∀ d i (out : List (List Int)), i + d = p.length → out.length = n → (∀ x, x ∈ out → x.length ≤ i) →
    Ev (fun k => spec_l10Bay.l1 k p (i : Int) h out) (h, fill p d i out) := by
 intro d
 induction d with
 | zero =>
  intro i out hi ho hx
  exact Ev.step (fun k => by simp only [spec_l10Bay.l1]; rfl) (ev_neg (by omega) (ev_const rfl))
 | succ d ih =>
  intro i out hi ho hx
  have hlt : i < p.length := by omega
  obtain ⟨h0, h1⟩ := inr_iff.mp (List.all_eq_true.mp hr p[i] (List.getElem_mem hlt))
  have hm := hx _ (rdl_mem (l := out) h0 (by omega))
  refine Ev.step (fun k => by simp only [spec_l10Bay.l1]; rfl) (ev_pos (by omega) (ev_pos (by omega) ?_))
  rw [rd_at p i hlt, wsucc hlt (by omega)]
  refine ev_pos h0 (ev_pos (by omega) (ev_pos (by omega) ?_))
  unfold fill
  rw [getD_at p i 0 hlt]
  have hi2 := ih (i + 1) (push out p[i] ((i : Int) + 1)) (by omega) (by rw [push_len]; exact ho) (fun x hx2 => by
    rcases push_mem hx2 with hx3 | rfl
    · have := hx x hx3; omega
    · rw [List.length_append, List.length_singleton]; omega)
  have e2 : ((i + 1 : Nat) : Int) = (i : Int) + 1 := by omega
  rw [e2] at hi2 ⊢
  exact hi2
theorem bay0 (h : Int) (ports : List Int) (n : Nat) (p : List Int) (hn : n ≤ 5) (hp : p.length ≤ 1048576) (hr : rng n p = true) : ∀ d j, j + d = n →
    Ev (fun k => spec_l10Bay.l0 k p (j : Int) (n : Int) h ports h (List.replicate j [])) (h, fill p p.length 0 (List.replicate n [])) := by
 intro d
 induction d with
 | zero =>
  intro j hj
  refine Ev.step (fun k => by simp only [spec_l10Bay.l0]; rfl) (ev_neg (by omega) ?_)
  rw [show j = n by omega]
  exact bay1 h n p hn hp hr p.length 0 _ (by omega) (by simp) (fun x hx => by rw [List.eq_of_mem_replicate hx]; simp)
 | succ d ih =>
  intro j hj
  refine Ev.step (fun k => by simp only [spec_l10Bay.l0]; rfl) (ev_pos (by omega) (ev_pos (by simp; omega) ?_))
  rw [wsucc (n := 6) (by omega) (by omega)]
  have hi2 := ih (j + 1) (by omega)
  rw [List.replicate_succ'] at hi2
  exact hi2
theorem bay_spec (h : Int) (ports : List Int) (n : Nat) (p : List Int) (hn : n ≤ 5) (hp : p.length ≤ 1048576) (hr : rng n p = true) : Ev (fun k => spec_l10Bay.f k (n : Int) h ports p) (h, fill p p.length 0 (List.replicate n [])) := by
 unfold spec_l10Bay.f
 exact bay0 h ports n p hn hp hr n 0 (by omega)
/-! The bay's numbers: each once. -/
theorem flat_set : ∀ (l : List (List Int)) (k : Nat) (h : k < l.length) (n : Int), ((l.set k (l[k] ++ [n])).flatten).Perm (n :: l.flatten)
  | x :: l, 0, h, n => by
    rw [List.set_cons_zero, List.flatten_cons, List.flatten_cons, List.getElem_cons_zero, List.append_assoc]
    exact List.perm_middle
  | x :: l, k + 1, h, n => by
    rw [List.set_cons_succ, List.flatten_cons, List.flatten_cons, List.getElem_cons_succ]
    exact ((flat_set l k (by simpa using h) n).append_left x).trans List.perm_middle
theorem fill_once (n : Nat) (p : List Int) (hr : rng n p = true) : ∀ d i (out : List (List Int)), i + d = p.length → out.length = n → out.flatten.Nodup → (∀ x, x ∈ out.flatten → 1 ≤ x ∧ x ≤ (i : Int)) →
    (fill p d i out).flatten.Nodup ∧ ∀ x, x ∈ (fill p d i out).flatten → 1 ≤ x ∧ x ≤ (p.length : Int)
  | 0, i, out, hi, ho, h1, h2 => ⟨h1, fun x hx => by have := h2 x hx; unfold fill at hx; omega⟩
  | d + 1, i, out, hi, ho, h1, h2 => by
    have hlt : i < p.length := by omega
    obtain ⟨g0, g1⟩ := inr_iff.mp (List.all_eq_true.mp hr p[i] (List.getElem_mem hlt))
    have hk : p[i].toNat < out.length := by omega
    have e : push out p[i] ((i : Int) + 1) = out.set p[i].toNat (out[p[i].toNat] ++ [(i : Int) + 1]) := by
      unfold push rd_L2
      rw [getD_at _ _ _ hk]
    have hp := flat_set out p[i].toNat hk ((i : Int) + 1)
    rw [← e] at hp
    rw [fill, getD_at p i 0 hlt]
    refine fill_once n p hr d (i + 1) _ (by omega) (by rw [push_len]; exact ho) ((hp.nodup_iff).mpr (List.nodup_cons.mpr ⟨fun hm => by have := h2 _ hm; omega, h1⟩)) (fun x hx => ?_)
    rcases List.mem_cons.mp (hp.mem_iff.mp hx) with rfl | hx
    · omega
    · have := h2 x hx; omega
theorem fill_flat (n : Nat) (p : List Int) (hr : rng n p = true) : ∀ d i (out : List (List Int)), i + d = p.length → out.length = n → (fill p d i out).flatten.length = out.flatten.length + d
  | 0, i, out, hi, ho => rfl
  | d + 1, i, out, hi, ho => by
    have hlt : i < p.length := by omega
    obtain ⟨g0, g1⟩ := inr_iff.mp (List.all_eq_true.mp hr p[i] (List.getElem_mem hlt))
    have hk : p[i].toNat < out.length := by omega
    have e : push out p[i] ((i : Int) + 1) = out.set p[i].toNat (out[p[i].toNat] ++ [(i : Int) + 1]) := by
      unfold push rd_L2
      rw [getD_at _ _ _ hk]
    have hp := flat_set out p[i].toNat hk ((i : Int) + 1)
    rw [← e] at hp
    rw [fill, getD_at p i 0 hlt, fill_flat n p hr d (i + 1) _ (by omega) (by rw [push_len]; exact ho), hp.length_eq, List.length_cons]
    omega
theorem chkRow_full : ∀ (l s : List Int), (∀ x, x ∈ l → inr x 1 99 = true) → l.Nodup → (∀ x, x ∈ l → ¬ x ∈ s) → ∃ t, chkRow l s = some t ∧ ∀ x, x ∈ t ↔ x ∈ s ∨ x ∈ l
  | [], s, _, _, _ => ⟨s, rfl, fun x => by simp⟩
  | n :: l, s, h1, h2, h3 => by
    obtain ⟨g1, g2⟩ := List.nodup_cons.mp h2
    obtain ⟨t, ht, hm⟩ := chkRow_full l (n :: s) (fun x hx => h1 x (List.mem_cons_of_mem _ hx)) g2 (fun x hx hs => by
      rcases List.mem_cons.mp hs with rfl | hs
      · exact g1 hx
      · exact h3 x (List.mem_cons_of_mem _ hx) hs)
    refine ⟨t, ?_, fun x => by rw [hm, List.mem_cons, List.mem_cons]; grind⟩
    unfold chkRow
    have hc : s.contains n = false := by
      have := h3 n List.mem_cons_self
      simpa using this
    rw [h1 n List.mem_cons_self, hc]
    exact ht
theorem chkRows_full (h : Int) : ∀ (l : List (List Int)) (s : List Int), (∀ x, x ∈ l.flatten → inr x 1 99 = true) → l.flatten.Nodup → (∀ x, x ∈ l.flatten → ¬ x ∈ s) → (chkRows h l s).isSome = low h l
  | [], s, _, _, _ => rfl
  | r :: l, s, h1, h2, h3 => by
    rw [List.flatten_cons] at h1 h2 h3
    obtain ⟨n1, n2, n3⟩ := List.nodup_append.mp h2
    unfold chkRows low
    rw [List.all_cons]
    by_cases hc : (r.length : Int) ≤ h
    · rw [if_pos hc, decide_eq_true hc, Bool.true_and]
      obtain ⟨t, ht, hm⟩ := chkRow_full r s (fun x hx => h1 x (List.mem_append_left _ hx)) n1 (fun x hx => h3 x (List.mem_append_left _ hx))
      rw [ht]
      exact chkRows_full h l t (fun x hx => h1 x (List.mem_append_right _ hx)) n2 (fun x hx hs => by
        rcases (hm x).mp hs with hs | hs
        · exact h3 x (List.mem_append_right _ hx) hs
        · exact n3 x hs x hx rfl)
    · rw [if_neg hc, decide_eq_false hc]; rfl
theorem okBay_fill (h : Int) (hh : inr h 1 4 = true) (n : Nat) (hn : 1 ≤ n ∧ n ≤ 5) (p : List Int) (hp : p.length ≤ 7) (hr : rng n p = true) : okBay h (fill p p.length 0 (List.replicate n [])) = low h (fill p p.length 0 (List.replicate n [])) := by
 obtain ⟨g1, g2⟩ := fill_once n p hr p.length 0 (List.replicate n []) (by omega) (by simp) (by simp) (fun x hx => by simp at hx)
 unfold okBay
 rw [hh, fill_len, List.length_replicate, show inr (n : Int) 1 5 = true from inr_iff.mpr (by omega), Bool.true_and, Bool.true_and]
 exact chkRows_full h _ [] (fun x hx => inr_iff.mpr (by have := g2 x hx; omega)) g1 (fun x hx hs => by cases hs)
theorem plan_l (h : Int) (ports : List Int) (n : Nat) (p : List Int) (hn : n ≤ 5) (hp : p.length ≤ 1048576) : ∀ d i, i + d = p.length → rng n (p.take i) = true →
    ∀ r, (rng n p = false → r = false) → (rng n p = true → Ev (fun k => if (p.length : Int) = (ports.length : Int) then ((spec_l10Bay.f k (n : Int) h ports p).bind fun bt143 => ((spec_l9Good.f k bt143.1 bt143.2).bind fun t147 => (some t147))) else (some false)) r) →
    Ev (fun k => spec_l10Plan.l0 k p (i : Int) (n : Int) h ports) r := by
 intro d
 induction d with
 | zero =>
  intro i hi ht r hf hs
  refine Ev.step (fun k => by simp only [spec_l10Plan.l0]; rfl) (ev_neg (by omega) ?_)
  rw [List.take_of_length_le (by omega)] at ht
  exact hs ht
 | succ d ih =>
  intro i hi ht r hf hs
  have hlt : i < p.length := by omega
  refine Ev.step (fun k => by simp only [spec_l10Plan.l0]; rfl) (ev_pos (by omega) (ev_pos (by omega) ?_))
  rw [rd_at p i hlt, wsucc hlt (by omega), wr (x := (n : Int) - 1) (by omega) (by omega)]
  refine ev_call (in_spec _ _ _) ?_
  cases hk : inr p[i] 0 ((n : Int) - 1)
  ·have hno : rng n p = false := by
     unfold rng
     rw [List.all_eq_false]
     exact ⟨p[i], List.getElem_mem hlt, by rw [hk]; simp⟩
   rw [hf hno]
   exact ev_neg (by simp) (ev_const rfl)
  refine ev_pos rfl (ih (i + 1) (by omega) ?_ r hf hs)
  rw [List.take_succ_eq_append_getElem hlt]
  unfold rng at ht ⊢
  rw [List.all_append, ht]
  simp [hk]
/-- What both make of a plan: whether it is possible, and the bay. -/
def Parts (R h : Int) (l p : List Int) (ok : Bool) (b : List (List Int)) : Prop :=
  Ev (fun k => spec_l10Asked.f k R h l p) ok ∧ Ev (fun k => impl_planBay.f k R h l p) (if ok = true then (h, b, true) else (0, [], false)) ∧
  (ok = true → Ev (fun k => spec_l10Bay.f k R h l p) (h, b) ∧ b.flatten.Nodup ∧ (∀ x, x ∈ b.flatten → 1 ≤ x ∧ x ≤ (l.length : Int)) ∧ l.length ≤ 7 ∧ b.length ≤ 5 ∧ (∀ x, x ∈ b → x.length ≤ 4) ∧ (b.length : Int) = R ∧ okSt R h l = true ∧ b.flatten.length = l.length)
theorem plan_parts (R h : Int) (l : List Int) (hn : l.length ≤ 1048576) (p : List Int) (hp : p.length ≤ 1048576) : ∃ ok b, Parts R h l p ok b := by
 have hg := st_spec R h l (by omega)
 have no : Ev (fun k => impl_planBay.j0 k p true R h l) (0, [], false) := by
   refine Ev.step (fun k => by simp only [impl_planBay.j0]; rfl) ?_
   exact ev_pos trivial (ev_const rfl)
 have fail : Ev (fun k => (spec_l10Good.f k R h l).bind fun t149 => (if t149 = true then ((spec_l10Plan.f k R h l p).bind fun t150 => (some t150)) else (some false))) false → Ev (fun k => (impl_IsValidStowage.f R h l).bind fun t171 => (if t171 = true then (impl_planBay.j0 k p ((p.length : Int) != (l.length : Int)) R h l) else (impl_planBay.j0 k p true R h l))) (0, [], false) → ∃ ok b, Parts R h l p ok b := fun h1 h2 =>
   ⟨false, [], by unfold spec_l10Asked.f; exact h1, by unfold impl_planBay.f; exact h2, fun e => by cases e⟩
 cases hk : okSt R h l
 ·rw [hk] at hg
  exact fail (Ev.bind hg (ev_neg (by simp) (ev_const rfl))) (ev_call (show impl_IsValidStowage.f R h l = some (okSt R h l) from rfl) (by rw [hk]; exact ev_neg (by simp) no))
 rw [hk] at hg
 have hk2 := hk
 unfold okSt at hk2
 simp only [Bool.and_eq_true, inr_iff] at hk2
 obtain ⟨⟨r1, r5⟩, ⟨b1, b4⟩, h7, _⟩ := hk2
 have h7 : (l.length : Int) ≤ 7 := of_decide_eq_true h7
 obtain ⟨n, rfl⟩ := Int.eq_ofNat_of_zero_le (show 0 ≤ R by omega)
 have hh : inr h 1 4 = true := inr_iff.mpr ⟨b1, b4⟩
 by_cases hc : p.length = l.length
 rotate_left
 ·have hneq : ((p.length : Int) != (l.length : Int)) = true := by rw [bne_iff_ne]; omega
  refine fail (Ev.bind hg (ev_pos rfl (Ev.bind (a := false) ?_ (ev_const rfl)))) (ev_call (show impl_IsValidStowage.f (n : Int) h l = some (okSt n h l) from rfl) ?_)
  ·unfold spec_l10Plan.f
   exact plan_l h l n p (by omega) hp p.length 0 (by omega) (by simp [rng]) false (fun _ => rfl) (fun _ => ev_neg (by omega) (ev_const rfl))
  rw [hk, hneq]
  exact ev_pos rfl no
 have hp7 : p.length ≤ 7 := by omega
 have hneq : ((p.length : Int) != (l.length : Int)) = false := by rw [hc]; simp
 have hlow0 : low h (List.replicate n []) = true := by
   refine List.all_eq_true.mpr fun r hr => ?_
   rw [List.eq_of_mem_replicate hr]
   simp; omega
 have hi := loop_impl (n : Int) h l p (by omega) b4 hp7 p.length 0 (List.replicate n []) (by omega) (by simp) hlow0
 rw [List.drop_zero] at hi
 have himp : ∀ r, Ev (fun k => impl_planBay.l0 k p (p.length : Int) ((0 : Nat) : Int) (n : Int) h l h (List.replicate n [])) r → Ev (fun k => (impl_IsValidStowage.f (n : Int) h l).bind fun t171 => (if t171 = true then (impl_planBay.j0 k p ((p.length : Int) != (l.length : Int)) (n : Int) h l) else (impl_planBay.j0 k p true (n : Int) h l))) r := fun r hr => by
   refine ev_call (show impl_IsValidStowage.f (n : Int) h l = some (okSt n h l) from rfl) ?_
   rw [hk, hneq]
   refine ev_pos rfl (Ev.step (fun k => by simp only [impl_planBay.j0]; rfl) ?_)
   refine ev_neg (by simp) (ev_pos (by omega) (ev_pos (by omega) ?_))
   rw [Int.toNat_natCast]
   exact hr
 cases hr : rng n p
 ·rw [if_neg (by rw [hr]; simp)] at hi
  refine fail (Ev.bind hg (ev_pos rfl (Ev.bind (a := false) ?_ (ev_const rfl)))) (himp _ hi)
  unfold spec_l10Plan.f
  exact plan_l h l n p (by omega) hp p.length 0 (by omega) (by simp [rng]) false (fun _ => rfl) (fun h2 => by rw [hr] at h2; cases h2)
 have hb := bay_spec h l n p (by omega) hp hr
 have hsz : ∀ x, x ∈ fill p p.length 0 (List.replicate n []) → low h (fill p p.length 0 (List.replicate n [])) = true → x.length ≤ 4 := fun x hx hl => by
   have := of_decide_eq_true (List.all_eq_true.mp hl x hx); omega
 have hrow : ∀ d i (out : List (List Int)), (∀ x, x ∈ out → x.length ≤ i) → ∀ x, x ∈ fill p d i out → x.length ≤ i + d := by
   intro d
   induction d with
   | zero => intro i out ho x hx; have := ho x hx; omega
   | succ d ihd =>
     intro i out ho x hx
     rw [fill] at hx
     have := ihd (i + 1) _ (fun y hy => by
       rcases push_mem hy with hy | rfl
       · have := ho y hy; omega
       · rw [List.length_append, List.length_singleton]
         have : (rd_L2 out (p.getD i 0)).length ≤ i := by
           unfold rd_L2
           by_cases hq : (p.getD i 0).toNat < out.length
           · rw [getD_at _ _ _ hq]; exact ho _ (List.getElem_mem hq)
           · rw [getD_out _ _ (by omega)]; simp
         omega) x hx
     omega
 have hrows := hrow p.length 0 (List.replicate n []) (fun x hx => by rw [List.eq_of_mem_replicate hx]; simp)
 have hgood := good_spec h (fill p p.length 0 (List.replicate n [])) (by rw [fill_len, List.length_replicate]; omega) (fun x hx => by have := hrows x hx; omega)
 rw [okBay_fill h hh n (by omega) p hp7 hr] at hgood
 have hplan : Ev (fun k => spec_l10Plan.f k (n : Int) h l p) (low h (fill p p.length 0 (List.replicate n []))) := by
   unfold spec_l10Plan.f
   exact plan_l h l n p (by omega) hp p.length 0 (by omega) (by simp [rng]) _ (fun h2 => by rw [hr] at h2; cases h2) (fun _ => ev_pos (by omega) (Ev.bind hb (Ev.bind hgood (ev_const rfl))))
 cases hq : low h (fill p p.length 0 (List.replicate n []))
 ·rw [hq] at hplan
  rw [if_neg (by rw [hq]; simp)] at hi
  exact fail (Ev.bind hg (ev_pos rfl (Ev.bind hplan (ev_const rfl)))) (himp _ hi)
 rw [hq] at hplan
 rw [if_pos ⟨hr, hq⟩] at hi
 obtain ⟨f1, f2⟩ := fill_once n p hr p.length 0 (List.replicate n []) (by omega) (by simp) (by simp) (fun x hx => by simp at hx)
 exact ⟨true, fill p p.length 0 (List.replicate n []), by unfold spec_l10Asked.f; exact Ev.bind hg (ev_pos rfl (Ev.bind hplan (ev_const rfl))), by unfold impl_planBay.f; exact himp _ hi, fun _ => ⟨hb, f1, fun x hx => by have := f2 x hx; omega, by omega, by rw [fill_len, List.length_replicate]; omega, fun x hx => hsz x hx hq, by rw [fill_len, List.length_replicate], hk, by rw [fill_flat n p hr p.length 0 _ (by omega) (by simp)]; simp; omega⟩⟩
end Go.Proofs.Ytipahijdcgoemaa.UB
namespace Go.Proofs.Ytipahijdcgoemaa.US
open Go.RowKit Go.Proofs.YtipahijdcgoemaaW.PrintWords Go.Proofs.YtipahijdcgoemaaW.PrintMore Go.Proofs.Ytipahijdcgoemaa.P Go.Proofs.Ytipahijdcgoemaa.U Go.Proofs.Ytipahijdcgoemaa.UT
set_option linter.unusedVariables false
theorem lead_step (n : Int) : ∀ (l : List Int) (i : Nat) (hi : i < l.length), i ≤ lead n l → (l[i] < n → i + 1 ≤ lead n l) ∧ (¬ l[i] < n → lead n l = i)
  | x :: l, 0, hi, h => by
    unfold lead
    refine ⟨fun hx => ?_, fun hx => ?_⟩
    · rw [if_pos (show x < n from hx)]; omega
    · rw [if_neg (show ¬ x < n from hx)]
  | x :: l, i + 1, hi, h => by
    unfold lead at h ⊢
    by_cases hx : x < n
    · rw [if_pos hx] at h ⊢
      have := lead_step n l i (by simpa using hi) (by omega)
      exact ⟨fun h1 => by have := this.1 h1; omega, fun h1 => by have := this.2 h1; omega⟩
    · rw [if_neg hx] at h; omega
theorem put_l (l : List Int) (n : Int) (hl : l.length ≤ 1048576) : ∀ d i, i + d = l.length → i ≤ lead n l → Ev (fun k => spec_l1Put.l0 k l n (i : Int)) (put l n) := by
 have stop : ∀ (i : Nat), i ≤ l.length → lead n l = i → ¬ l[i]? = some n → put l n = l.take i ++ [n] ++ l.drop i := fun i _ h1 h2 => by rw [put_eq, h1, if_neg h2]
 intro d
 induction d with
 | zero =>
  intro i hi h
  have hle := lead_le n l
  refine Ev.step (fun k => by simp only [spec_l1Put.l0]; rfl) (ev_neg (by omega) (ev_const ?_))
  rw [stop i (by omega) (by omega) (by rw [List.getElem?_eq_none (by omega)]; simp)]
  simp only [Option.bind_some, List.nil_append, List.length_nil, List.length_append, List.length_take, List.length_drop, List.length_singleton, Int.toNat_natCast]
  rw [if_pos (by omega), if_pos (by omega), if_pos (by omega), if_pos (by omega), if_pos (by omega)]
 | succ d ih =>
  intro i hi h
  have hlt : i < l.length := by omega
  obtain ⟨s1, s2⟩ := lead_step n l i hlt h
  refine Ev.step (fun k => by simp only [spec_l1Put.l0]; rfl) (ev_pos (by omega) (ev_pos (by omega) ?_))
  rw [rd_at l i hlt, wsucc hlt (by omega)]
  by_cases hc : l[i] < n
  ·exact ev_pos hc (ih (i + 1) (by omega) (s1 hc))
  refine ev_neg hc ?_
  by_cases he : l[i] = n
  ·refine ev_eq (ev_pos he (ev_const rfl)) ?_
   rw [put_eq, s2 hc, if_pos (by rw [List.getElem?_eq_getElem hlt, he])]
  refine ev_neg he (ev_const ?_)
  rw [stop i (by omega) (s2 hc) (by rw [List.getElem?_eq_getElem hlt]; simpa using he)]
  simp only [Option.bind_some, List.nil_append, List.length_nil, List.length_append, List.length_take, List.length_drop, List.length_singleton, Int.toNat_natCast]
  rw [if_pos (by omega), if_pos (by omega), if_pos (by omega), if_pos (by omega)]
theorem put_ev (l : List Int) (n : Int) (hl : l.length ≤ 1048576) : Ev (fun k => spec_l1Put.f k l n) (put l n) := by
 unfold spec_l1Put.f
 exact put_l l n hl l.length 0 (by omega) (by omega)
end Go.Proofs.Ytipahijdcgoemaa.US
