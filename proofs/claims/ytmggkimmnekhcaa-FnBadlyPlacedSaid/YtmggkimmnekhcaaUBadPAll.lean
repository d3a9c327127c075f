/- The law of the badly placed numbers, with all that it takes over. -/
import Derived.Test.YtmggkimmnekhcaaPx0
import Derived.Test.YtmggkimmnekhcaaPx1
import Derived.Test.YtmggkimmnekhcaaPx10
import Derived.Test.YtmggkimmnekhcaaPx11
import Derived.Test.YtmggkimmnekhcaaPx12
import Derived.Test.YtmggkimmnekhcaaPx13
import Derived.Test.YtmggkimmnekhcaaPx14
import Derived.Test.YtmggkimmnekhcaaPx15
import Derived.Test.YtmggkimmnekhcaaPx16
import Derived.Test.YtmggkimmnekhcaaPx17
import Derived.Test.YtmggkimmnekhcaaPx18
import Derived.Test.YtmggkimmnekhcaaPx19
import Derived.Test.YtmggkimmnekhcaaPx2
import Derived.Test.YtmggkimmnekhcaaPx22
import Derived.Test.YtmggkimmnekhcaaPx23
import Derived.Test.YtmggkimmnekhcaaPx3
import Derived.Test.YtmggkimmnekhcaaPx4
import Derived.Test.YtmggkimmnekhcaaPx5
import Derived.Test.YtmggkimmnekhcaaPx6
import Derived.Test.YtmggkimmnekhcaaPx7
import Derived.Test.YtmggkimmnekhcaaPx8
import Derived.Test.YtmggkimmnekhcaaPx9
import Derived.Test.YtmggkimmnekhcaaU
import Derived.Laws.BitsLemmas
import Derived.Sort.LotA
namespace Go.Proofs.Ytmggkimmnekhcaa.UT
open Go.RowKit Go.Proofs.YtmggkimmnekhcaaW.PrintWords Go.Proofs.YtmggkimmnekhcaaW.PrintMore Go.Proofs.Ytmggkimmnekhcaa.P Go.Proofs.Ytmggkimmnekhcaa.U
set_option linter.unusedVariables false

theorem rd_l1 (l : List (List Int)) (i : Nat) (h : i < l.length) : rd_L2 l (i : Int) = l[i] := by
  unfold rd_L2
  rw [Int.toNat_natCast]
  exact getD_at l i _ h
theorem in_spec (a b c : Int) : spec_l1In.f a b c = some (inr a b c) := by
  unfold spec_l1In.f inr
  by_cases h : b ≤ a <;> simp [h]
theorem has_l (l : List Int) (v : Int) (hn : l.length ≤ 9223372036854775807) : ∀ d i, i + d = l.length → Ev (fun k => spec_l1Has.l0 k l v (i : Int)) ((l.drop i).contains v) := by
  intro d
  induction d with
  | zero =>
    intro i hi
    refine Ev.step (fun k => by simp only [spec_l1Has.l0]; rfl) (ev_neg (by omega) (ev_const ?_))
    rw [List.drop_of_length_le (by omega)]; rfl
  | succ d ih =>
    intro i hi
    have hlt : i < l.length := by omega
    refine Ev.step (fun k => by simp only [spec_l1Has.l0]; rfl) ?_
    refine ev_pos (by omega) (ev_pos (by omega) ?_)
    rw [rd_at l i hlt, wsucc hlt hn, List.drop_eq_getElem_cons hlt, List.contains_cons]
    by_cases e : l[i] = v
    · exact ev_eq (ev_pos e (ev_const rfl)) (by simp [e])
    · exact ev_eq (ev_neg e (ih (i + 1) (by omega))) (by simp [Ne.symm e])
theorem has_ev (l : List Int) (v : Int) (hn : l.length ≤ 9223372036854775807) : Ev (fun k => spec_l1Has.f k l v) (l.contains v) := by
  unfold spec_l1Has.f
  exact has_l l v hn l.length 0 (by omega)
end Go.Proofs.Ytmggkimmnekhcaa.UT
namespace Go.Proofs.Ytmggkimmnekhcaa.UY
open Go.RowKit Go.Proofs.YtmggkimmnekhcaaW.PrintWords Go.Proofs.YtmggkimmnekhcaaW.PrintMore Go.Proofs.Ytmggkimmnekhcaa.P Go.Proofs.Ytmggkimmnekhcaa.U Go.Proofs.Ytmggkimmnekhcaa.UT
set_option linter.unusedVariables false

theorem contains_rev (s : List Int) (n : Int) : s.reverse.contains n = s.contains n := by
  rw [Bool.eq_iff_iff]; simp
theorem good_l (l : List (List Int)) (hn : l.length ≤ 9223372036854775807) (hx : ∀ x, x ∈ l → x.length ≤ 1048576) : ∀ d i (s : List Int), i + d = l.length → s.length ≤ i * 1048576 → l.length ≤ 1048576 →
    Ev (fun k => spec_l5Good.l0 k s.reverse (i : Int) l) ((chkRows 4 (l.drop i) s).isSome) := by
  intro d
  induction d with
  | zero =>
    intro i s hi hs _
    refine Ev.step (fun k => by simp only [spec_l5Good.l0]; rfl) ?_
    refine ev_neg (by omega) (ev_const ?_)
    rw [List.drop_of_length_le (by omega)]; rfl
  | succ d ih =>
    intro i s hi hs hll
    have hlt : i < l.length := by omega
    refine Ev.step (fun k => by simp only [spec_l5Good.l0]; rfl) ?_
    refine ev_pos (by omega) (ev_pos (by omega) ?_)
    rw [rd_l1 l i hlt, List.drop_eq_getElem_cons hlt]
    have hxi := hx _ (List.getElem_mem hlt)
    unfold chkRows
    by_cases hc : (l[i].length : Int) ≤ 4
    · rw [if_pos hc]
      refine ev_neg (by omega) ?_
      have inner : ∀ e j (s : List Int), j + e = l[i].length → s.length ≤ i * 1048576 + j → Ev (fun k => spec_l5Good.l1 k s.reverse (i : Int) (j : Int) l) (((chkRow (l[i].drop j) s).bind (chkRows 4 (l.drop (i + 1)))).isSome) := by
        intro e
        induction e with
        | zero =>
          intro j s hj hs
          refine Ev.step (fun k => by simp only [spec_l5Good.l1]; rfl) ?_
          refine ev_pos (by omega) (ev_pos (by omega) ?_)
          rw [rd_l1 l i hlt, wsucc hlt hn]
          refine ev_neg (by omega) ?_
          rw [List.drop_of_length_le (by omega)]
          exact ih (i + 1) s (by omega) (by omega) hll
        | succ e ihe =>
          intro j s hj hs
          have hjt : j < l[i].length := by omega
          refine Ev.step (fun k => by simp only [spec_l5Good.l1]; rfl) ?_
          refine ev_pos (by omega) (ev_pos (by omega) ?_)
          rw [rd_l1 l i hlt, rd_at _ j hjt, wsucc hjt (by omega), List.drop_eq_getElem_cons hjt]
          refine ev_pos (by omega) (ev_pos (by omega) ?_)
          refine ev_call (in_spec _ _ _) ?_
          cases h1 : inr l[i][j] 1 99
          · exact ev_eq (ev_neg (by simp) (ev_const rfl)) (by rw [chkRow_bad (by rw [h1]; rfl)]; rfl)
          refine ev_pos rfl ?_
          have hh := has_ev s.reverse l[i][j] (by rw [List.length_reverse]; omega)
          rw [contains_rev] at hh
          refine Ev.bind hh ?_
          cases h2 : s.contains l[i][j]
          · refine ev_neg (by simp) (ev_pos (by rw [List.length_reverse]; omega) ?_)
            rw [chkRow_ok (by rw [h1, h2]; rfl)]
            have e2 := ihe (j + 1) (l[i][j] :: s) (by omega) (by rw [List.length_cons]; omega)
            rw [List.reverse_cons] at e2
            exact e2
          · exact ev_eq (ev_pos rfl (ev_const rfl)) (by rw [chkRow_bad (by rw [h1, h2]; rfl)]; rfl)
      exact inner l[i].length 0 s (by omega) (Nat.le_trans hs (Nat.le_add_right _ _))
    · rw [if_neg hc]
      exact ev_pos (by omega) (ev_const rfl)
theorem good_spec (l : List (List Int)) (hn : l.length ≤ 1048576) (hx : ∀ x, x ∈ l → x.length ≤ 1048576) : Ev (fun k => spec_l5Good.f k l) (okYard l) := by
  unfold spec_l5Good.f okYard
  refine ev_call (in_spec _ _ _) ?_
  cases h2 : inr (l.length : Int) 1 6
  · exact ev_neg (by simp) (ev_const rfl)
  · exact ev_pos rfl (good_l l (by omega) hx l.length 0 [] (by omega) (by simp) hn)
end Go.Proofs.Ytmggkimmnekhcaa.UY
namespace Go.Proofs.Ytmggkimmnekhcaa.UY
open Go.RowKit Go.Proofs.YtmggkimmnekhcaaW.PrintWords Go.Proofs.YtmggkimmnekhcaaW.PrintMore Go.Proofs.Ytmggkimmnekhcaa.P Go.Proofs.Ytmggkimmnekhcaa.U Go.Proofs.Ytmggkimmnekhcaa.UT
set_option linter.unusedVariables false

/-! A valid yard. -/
theorem chkRow_mem : ∀ (l s t : List Int), chkRow l s = some t → ∀ n, n ∈ l → inr n 1 99 = true
  | [], _, _, _, n, hn => by cases hn
  | x :: l, s, t, h, n, hn => by
    unfold chkRow at h
    split at h
    · rename_i hc
      rw [Bool.and_eq_true] at hc
      rcases List.mem_cons.mp hn with rfl | hn
      · exact hc.1
      · exact chkRow_mem l _ _ h n hn
    · cases h
theorem chkRows_mem (cap : Int) : ∀ (l : List (List Int)) (s t : List Int), chkRows cap l s = some t → ∀ x, x ∈ l → (x.length : Int) ≤ cap ∧ ∀ n, n ∈ x → inr n 1 99 = true
  | [], _, _, _, x, hx => by cases hx
  | r :: l, s, t, h, x, hx => by
    unfold chkRows at h
    split at h
    · rename_i hc
      cases h1 : chkRow r s with
      | none => rw [h1] at h; cases h
      | some u =>
        rw [h1] at h
        rcases List.mem_cons.mp hx with rfl | hx
        · exact ⟨hc, chkRow_mem _ _ _ h1⟩
        · exact chkRows_mem cap l _ _ h x hx
    · cases h
theorem okYard_mem {l : List (List Int)} (h : okYard l = true) : (1 ≤ l.length ∧ l.length ≤ 6) ∧ ∀ x, x ∈ l → x.length ≤ 4 ∧ ∀ n, n ∈ x → 1 ≤ n ∧ n ≤ 99 := by
  unfold okYard at h
  rw [Bool.and_eq_true, inr_iff] at h
  obtain ⟨h1, h2⟩ := h
  obtain ⟨t, ht⟩ := Option.isSome_iff_exists.mp h2
  refine ⟨⟨by omega, by omega⟩, fun x hx => ?_⟩
  obtain ⟨h3, h4⟩ := chkRows_mem 4 l _ _ ht x hx
  exact ⟨by omega, fun n hn => inr_iff.mp (h4 n hn)⟩

theorem rdl_mem {l : List (List Int)} {s : Int} (h0 : 0 ≤ s) (h1 : s < (l.length : Int)) : rd_L2 l s ∈ l := by
  obtain ⟨n, rfl⟩ := Int.eq_ofNat_of_zero_le h0
  have h : n < l.length := by omega
  rw [show rd_L2 l (n : Int) = l[n] from rd_l1 l n h]
  exact List.getElem_mem h
end Go.Proofs.Ytmggkimmnekhcaa.UY
namespace Go.Proofs.Ytmggkimmnekhcaa.UY
open Go.RowKit Go.Proofs.YtmggkimmnekhcaaW.PrintWords Go.Proofs.YtmggkimmnekhcaaW.PrintMore Go.Proofs.Ytmggkimmnekhcaa.P Go.Proofs.Ytmggkimmnekhcaa.U Go.Proofs.Ytmggkimmnekhcaa.UT
set_option linter.unusedVariables false

def cntLess (v : Int) : List Int → Int → Int
  | [], s => s
  | x :: l, s => cntLess v l (if x < v then wrap64 (s + 1) else s)
theorem below_l (row : List Int) (t : Nat) (ht : t < row.length) (hn : row.length ≤ 1048576) : ∀ d j (s : Int), j + d = t → Ev (fun k => spec_l8Below.l0 k row (t : Int) s (j : Int)) (cntLess (row.getD t 0) ((row.take t).drop j) s) := by
  intro d
  induction d with
  | zero =>
    intro j s hj
    refine Ev.step (fun k => by simp only [spec_l8Below.l0]; rfl) ?_
    refine ev_neg (by omega) (ev_const ?_)
    rw [List.drop_of_length_le (by rw [List.length_take]; omega)]; rfl
  | succ d ih =>
    intro j s hj
    have hjt : j < (row.take t).length := by rw [List.length_take]; omega
    refine Ev.step (fun k => by simp only [spec_l8Below.l0]; rfl) ?_
    rw [rd_at row j (by omega), rd_at row t ht, wsucc (show j < row.length by omega) (by omega), List.drop_eq_getElem_cons hjt, getD_at _ _ _ ht]
    refine ev_pos (by omega) (ev_pos (by omega) (ev_pos (by omega) (ev_pos (by omega) (ev_pos (by omega) ?_))))
    have e : (row.take t)[j] = row[j] := by simp
    rw [e]
    unfold cntLess
    have h := ih (j + 1)
    rw [getD_at _ _ _ ht] at h
    by_cases hc : row[j] < row[t]
    · rw [if_pos hc]; exact ev_pos hc (h _ (by omega))
    · rw [if_neg hc]; exact ev_neg hc (h _ (by omega))
theorem below_ev (row : List Int) (t : Nat) (ht : t < row.length) (hn : row.length ≤ 1048576) : Ev (fun k => spec_l8Below.f k row (t : Int)) (cntLess (row.getD t 0) (row.take t) 0) := by
  unfold spec_l8Below.f
  exact below_l row t ht hn t 0 0 (by omega)
end Go.Proofs.Ytmggkimmnekhcaa.UY
namespace Go.Proofs.Ytmggkimmnekhcaa.UY
open Go.RowKit Go.Proofs.YtmggkimmnekhcaaW.PrintWords Go.Proofs.YtmggkimmnekhcaaW.PrintMore Go.Proofs.Ytmggkimmnekhcaa.P Go.Proofs.Ytmggkimmnekhcaa.U Go.Proofs.Ytmggkimmnekhcaa.UT
set_option linter.unusedVariables false

/-- Whether a number stands above a smaller one. -/
def bad (row : List Int) (j : Nat) : Bool := (row.take j).any fun x => decide (x < row.getD j 0)
theorem cnt_any (v : Int) : ∀ (l : List Int) (s : Int), 0 ≤ s → s + l.length ≤ 9223372036854775807 →
    s ≤ cntLess v l s ∧ cntLess v l s ≤ s + l.length ∧ (l.any (fun x => decide (x < v)) = true → s < cntLess v l s) ∧ (l.any (fun x => decide (x < v)) = false → cntLess v l s = s)
  | [], s, h0, h1 => by simp [cntLess]
  | x :: l, s, h0, h1 => by
    rw [List.length_cons] at h1
    unfold cntLess
    rw [List.any_cons, List.length_cons]
    by_cases h : x < v
    · rw [if_pos h, wr (by omega) (by omega), decide_eq_true h]
      obtain ⟨i1, i2, i3, i4⟩ := cnt_any v l (s + 1) (by omega) (by omega)
      exact ⟨by omega, by omega, fun _ => by omega, fun hh => by simp at hh⟩
    · rw [if_neg h, decide_eq_false h]
      obtain ⟨i1, i2, i3, i4⟩ := cnt_any v l s h0 (by omega)
      exact ⟨by omega, by omega, fun hh => i3 (by simpa using hh), fun hh => i4 (by simpa using hh)⟩
theorem bad_spec (row : List Int) (t : Nat) (ht : t < row.length) (hn : row.length ≤ 1048576) :
    ∃ c, Ev (fun k => spec_l8Below.f k row (t : Int)) c ∧ (c == 0) = !bad row t ∧ decide (c > 0) = bad row t := by
  refine ⟨_, below_ev row t ht hn, ?_⟩
  obtain ⟨h1, h2, h3, h4⟩ := cnt_any (row.getD t 0) (row.take t) 0 (by omega) (by rw [List.length_take]; omega)
  unfold bad
  cases hb : (row.take t).any fun x => decide (x < row.getD t 0)
  · rw [h4 hb]; simp
  · have h5 := h3 hb
    have h6 : ¬ cntLess (row.getD t 0) (row.take t) 0 = 0 := by omega
    generalize cntLess (row.getD t 0) (row.take t) 0 = c at h5 h6 ⊢
    exact ⟨by simp [h6], by simp; omega⟩
theorem mn_lt (m x v : Int) : mn m x < v ↔ m < v ∨ x < v := by
  unfold mn
  split <;> omega
theorem mnL_lt (v : Int) : ∀ (l : List Int) (m : Int), mnL l m < v ↔ m < v ∨ l.any (fun x => decide (x < v)) = true
  | [], m => by simp [mnL]
  | x :: l, m => by
    unfold mnL
    rw [mnL_lt v l, mn_lt, List.any_cons, Bool.or_eq_true, decide_eq_true_iff, or_assoc]
theorem min_bad (row : List Int) (j : Nat) (h0 : 0 < j) (hj : j < row.length) : ∃ m, slices_Min_int_int.f (row.take j) = some m ∧ decide (m < row.getD j 0) = bad row j := by
  have hlen : (row.take j).length = j := by rw [List.length_take]; omega
  unfold bad
  cases hr : row.take j with
  | nil => rw [hr] at hlen; simp at hlen; omega
  | cons x l =>
    refine ⟨mnL l x, rfl, ?_⟩
    rw [Bool.eq_iff_iff, decide_eq_true_iff, mnL_lt, List.any_cons, Bool.or_eq_true, decide_eq_true_iff]
def blist (row : List Int) : Nat → Nat → List Int → List Int
  | 0, _, acc => acc
  | d + 1, j, acc => blist row d (j + 1) (if bad row j = true then acc ++ [row.getD j 0] else acc)
theorem bp_l (row : List Int) (hn : row.length ≤ 1048576) : ∀ d j (acc : List Int), j + d = row.length → acc.length ≤ j → Ev (fun k => impl_badlyPlaced.l0 k row acc row (row.length : Int) (j : Int)) (blist row d j acc) := by
  intro d
  induction d with
  | zero =>
    intro j acc hj ha
    exact Ev.step (fun k => by simp only [impl_badlyPlaced.l0]; rfl) (ev_neg (by omega) (ev_const rfl))
  | succ d ih =>
    intro j acc hj ha
    have hlt : j < row.length := by omega
    refine Ev.step (fun k => by simp only [impl_badlyPlaced.l0]; rfl) ?_
    refine ev_pos (by omega) (ev_pos (by omega) (ev_pos (by omega) ?_))
    rw [wsucc hlt (by omega), rd_at row j hlt]
    unfold blist
    by_cases h0 : j = 0
    · subst h0
      refine ev_neg (by omega) ?_
      have hb : bad row 0 = false := by simp [bad]
      rw [hb]
      exact ih 1 acc (by omega) (by omega)
    · obtain ⟨m, hm, hb⟩ := min_bad row j (by omega) hlt
      rw [getD_at _ _ _ hlt] at hb
      refine ev_pos (by omega) (ev_pos (by omega) (ev_call (by rw [Int.toNat_natCast]; exact hm) ?_))
      rw [getD_at _ _ _ hlt]
      by_cases hc : m < row[j]
      · rw [decide_eq_true hc] at hb
        rw [if_pos hb.symm]
        exact ev_pos hc (ev_pos (by omega) (ih (j + 1) _ (by omega) (by rw [List.length_append, List.length_singleton]; omega)))
      · rw [decide_eq_false hc] at hb
        rw [if_neg (by rw [← hb]; simp)]
        exact ev_neg hc (ih (j + 1) _ (by omega) (by omega))
theorem bp_ev (row : List Int) (hn : row.length ≤ 1048576) : Ev (fun k => impl_badlyPlaced.f k row) (blist row row.length 0 []) := by
  unfold impl_badlyPlaced.f
  exact bp_l row hn row.length 0 [] (by omega) (by simp)
end Go.Proofs.Ytmggkimmnekhcaa.UY
namespace Go.Proofs.Ytmggkimmnekhcaa.US
set_option linter.unusedVariables false
/-- A number put into a rising list, once. -/
def put : List Int → Int → List Int
  | [], n => [n]
  | x :: l, n => if x < n then x :: put l n else if x = n then x :: l else n :: x :: l
theorem put_mem (n y : Int) : ∀ (l : List Int), y ∈ put l n ↔ y = n ∨ y ∈ l
  | [] => by simp [put]
  | x :: l => by
    unfold put
    split
    · rw [List.mem_cons, put_mem n y l, List.mem_cons]; grind
    · split
      · rename_i h; subst h; simp
      · simp
theorem put_rising (n : Int) : ∀ (l : List Int), l.Pairwise (· < ·) → (put l n).Pairwise (· < ·)
  | [], _ => by simp [put]
  | x :: l, h => by
    obtain ⟨h1, h2⟩ := List.pairwise_cons.mp h
    unfold put
    split
    · rename_i hx
      refine List.pairwise_cons.mpr ⟨fun y hy => ?_, put_rising n l h2⟩
      rcases (put_mem n y l).mp hy with rfl | hy
      · exact hx
      · exact h1 y hy
    · split
      · exact h
      · rename_i hx hn
        refine List.pairwise_cons.mpr ⟨fun y hy => ?_, h⟩
        rcases List.mem_cons.mp hy with rfl | hy
        · omega
        · have := h1 y hy; omega
theorem put_len (n : Int) : ∀ (l : List Int), (put l n).length ≤ l.length + 1
  | [] => by simp [put]
  | x :: l => by
    unfold put
    split
    · rw [List.length_cons, List.length_cons]; have := put_len n l; omega
    · split <;> simp
theorem eq_of_mem : ∀ (a b : List Int), a.Pairwise (· < ·) → b.Pairwise (· < ·) → (∀ x, x ∈ a ↔ x ∈ b) → a = b
  | [], [], _, _, _ => rfl
  | [], y :: b, _, _, h => by have := (h y).mpr List.mem_cons_self; cases this
  | x :: a, [], _, _, h => by have := (h x).mp List.mem_cons_self; cases this
  | x :: a, y :: b, ha, hb, h => by
    obtain ⟨a1, a2⟩ := List.pairwise_cons.mp ha
    obtain ⟨b1, b2⟩ := List.pairwise_cons.mp hb
    have hxy : x = y := by
      rcases List.mem_cons.mp ((h x).mp List.mem_cons_self) with e | hx
      · exact e
      · rcases List.mem_cons.mp ((h y).mpr List.mem_cons_self) with e | hy
        · exact e.symm
        · have := b1 x hx; have := a1 y hy; omega
    subst hxy
    rw [eq_of_mem a b a2 b2 (fun z => ?_)]
    constructor
    · intro hz
      rcases List.mem_cons.mp ((h z).mp (List.mem_cons_of_mem _ hz)) with rfl | hz2
      · have := a1 z hz; omega
      · exact hz2
    · intro hz
      rcases List.mem_cons.mp ((h z).mpr (List.mem_cons_of_mem _ hz)) with rfl | hz2
      · have := b1 z hz; omega
      · exact hz2
theorem sort_rising (l : List Int) (h : l.Nodup) : (l.mergeSort fun x y => decide (x ≤ y)).Pairwise (· < ·) := by
  have h1 := List.pairwise_mergeSort (le := fun (x y : Int) => decide (x ≤ y)) (fun a b c h1 h2 => by simp at *; omega) (fun a b => by simp; omega) l
  have h2 : (l.mergeSort fun x y => decide (x ≤ y)).Nodup := ((List.mergeSort_perm l _).nodup_iff).mpr h
  exact (h1.and h2).imp (fun {a b} hab => by
    have h3 : a ≤ b := of_decide_eq_true hab.1
    have h4 : a ≠ b := hab.2
    omega)
/-- Numbers put one behind the other. -/
def puts : List Int → List Int → List Int
  | acc, [] => acc
  | acc, n :: l => puts (put acc n) l
theorem puts_mem (y : Int) : ∀ (l acc : List Int), y ∈ puts acc l ↔ y ∈ acc ∨ y ∈ l
  | [], acc => by simp [puts]
  | n :: l, acc => by rw [puts, puts_mem y l, put_mem, List.mem_cons]; grind
theorem puts_rising : ∀ (l acc : List Int), acc.Pairwise (· < ·) → (puts acc l).Pairwise (· < ·)
  | [], acc, h => h
  | n :: l, acc, h => puts_rising l _ (put_rising n acc h)
theorem puts_app : ∀ (a b acc : List Int), puts acc (a ++ b) = puts (puts acc a) b
  | [], b, acc => rfl
  | n :: a, b, acc => by rw [List.cons_append, puts, puts_app a b]; rfl
theorem puts_len : ∀ (l acc : List Int), (puts acc l).length ≤ acc.length + l.length
  | [], acc => by simp [puts]
  | n :: l, acc => by
    rw [puts, List.length_cons]
    have h1 := puts_len l (put acc n)
    have h2 := put_len n acc
    omega
theorem sort_puts (l : List Int) (h : l.Nodup) : (l.mergeSort fun x y => decide (x ≤ y)) = puts [] l :=
  eq_of_mem _ _ (sort_rising l h) (puts_rising l [] List.Pairwise.nil) (fun x => by rw [List.mem_mergeSort, puts_mem]; simp)
/-- Where a number is put: behind the smaller ones. -/
def lead (n : Int) : List Int → Nat
  | [] => 0
  | x :: l => if x < n then lead n l + 1 else 0
theorem lead_le (n : Int) : ∀ (l : List Int), lead n l ≤ l.length
  | [] => Nat.le_refl _
  | x :: l => by
    unfold lead
    split
    · rw [List.length_cons]; have := lead_le n l; omega
    · simp
theorem put_eq (n : Int) : ∀ (l : List Int), put l n = if l[lead n l]? = some n then l else l.take (lead n l) ++ [n] ++ l.drop (lead n l)
  | [] => by simp [put, lead]
  | x :: l => by
    unfold put lead
    by_cases h : x < n
    · rw [if_pos h, if_pos h, put_eq n l, List.getElem?_cons_succ]
      split
      · rfl
      · simp
    · rw [if_neg h, if_neg h]
      by_cases h2 : x = n
      · subst h2; simp
      · rw [if_neg h2, if_neg (by simp [h2])]; simp

/-! A valid table's numbers are each there once. -/
open Go.Proofs.Ytmggkimmnekhcaa.U
theorem chkRow_once : ∀ (l s t : List Int), chkRow l s = some t → (∀ x, x ∈ t ↔ x ∈ s ∨ x ∈ l) ∧ l.Nodup ∧ ∀ x, x ∈ l → ¬ x ∈ s
  | [], s, t, h => by injection h with h; subst h; simp
  | n :: l, s, t, h => by
    unfold chkRow at h
    split at h
    · rename_i hc
      rw [Bool.and_eq_true] at hc
      have hn : ¬ n ∈ s := by simpa using hc.2
      obtain ⟨h1, h2, h3⟩ := chkRow_once l (n :: s) t h
      refine ⟨fun x => by rw [h1, List.mem_cons, List.mem_cons]; grind, List.nodup_cons.mpr ⟨fun hm => h3 n hm List.mem_cons_self, h2⟩, fun x hx hs => ?_⟩
      rcases List.mem_cons.mp hx with rfl | hx
      · exact hn hs
      · exact h3 x hx (List.mem_cons_of_mem _ hs)
    · cases h
theorem chkRows_once (cap : Int) : ∀ (l : List (List Int)) (s t : List Int), chkRows cap l s = some t → (∀ x, x ∈ t ↔ x ∈ s ∨ x ∈ l.flatten) ∧ l.flatten.Nodup ∧ ∀ x, x ∈ l.flatten → ¬ x ∈ s
  | [], s, t, h => by injection h with h; subst h; simp
  | r :: l, s, t, h => by
    unfold chkRows at h
    split at h
    · cases h1 : chkRow r s with
      | none => rw [h1] at h; cases h
      | some u =>
        rw [h1] at h
        obtain ⟨a1, a2, a3⟩ := chkRow_once r s u h1
        obtain ⟨b1, b2, b3⟩ := chkRows_once cap l u t h
        rw [List.flatten_cons]
        refine ⟨fun x => by rw [b1, a1, List.mem_append]; grind, List.nodup_append.mpr ⟨a2, b2, fun x hx y hy e => ?_⟩, fun x hx hs => ?_⟩
        · subst e; exact b3 x hy ((a1 x).mpr (Or.inr hx))
        · rcases List.mem_append.mp hx with hx | hx
          · exact a3 x hx hs
          · exact b3 x hx ((a1 x).mpr (Or.inl hs))
    · cases h
end Go.Proofs.Ytmggkimmnekhcaa.US
namespace Go.Proofs.Ytmggkimmnekhcaa.US
open Go.RowKit Go.Proofs.YtmggkimmnekhcaaW.PrintWords Go.Proofs.YtmggkimmnekhcaaW.PrintMore Go.Proofs.Ytmggkimmnekhcaa.P Go.Proofs.Ytmggkimmnekhcaa.U Go.Proofs.Ytmggkimmnekhcaa.UT
set_option linter.unusedVariables false

theorem lead_step (n : Int) : ∀ (l : List Int) (i : Nat) (hi : i < l.length), i ≤ lead n l → (l[i] < n → i + 1 ≤ lead n l) ∧ (¬ l[i] < n → lead n l = i)
  | x :: l, 0, hi, h => by
    unfold lead
    refine ⟨fun hx => ?_, fun hx => ?_⟩
    · rw [if_pos (show x < n from hx)]; omega
    · rw [if_neg (show ¬ x < n from hx)]
  | x :: l, i + 1, hi, h => by
    unfold lead at h ⊢
    by_cases hx : x < n
    · rw [if_pos hx] at h ⊢
      have := lead_step n l i (by simpa using hi) (by omega)
      exact ⟨fun h1 => by have := this.1 h1; omega, fun h1 => by have := this.2 h1; omega⟩
    · rw [if_neg hx] at h; omega
theorem put_l (l : List Int) (n : Int) (hl : l.length ≤ 1048576) : ∀ d i, i + d = l.length → i ≤ lead n l → Ev (fun k => spec_l1Put.l0 k l n (i : Int)) (put l n) := by
  have stop : ∀ (i : Nat), i ≤ l.length → lead n l = i → ¬ l[i]? = some n → put l n = l.take i ++ [n] ++ l.drop i := fun i _ h1 h2 => by rw [put_eq, h1, if_neg h2]
  intro d
  induction d with
  | zero =>
    intro i hi h
    have hle := lead_le n l
    refine Ev.step (fun k => by simp only [spec_l1Put.l0]; rfl) (ev_neg (by omega) (ev_const ?_))
    rw [stop i (by omega) (by omega) (by rw [List.getElem?_eq_none (by omega)]; simp)]
    simp only [Option.bind_some, List.nil_append, List.length_nil, List.length_append, List.length_take, List.length_drop, List.length_singleton, Int.toNat_natCast]
    rw [if_pos (by omega), if_pos (by omega), if_pos (by omega), if_pos (by omega), if_pos (by omega)]
  | succ d ih =>
    intro i hi h
    have hlt : i < l.length := by omega
    obtain ⟨s1, s2⟩ := lead_step n l i hlt h
    refine Ev.step (fun k => by simp only [spec_l1Put.l0]; rfl) (ev_pos (by omega) (ev_pos (by omega) ?_))
    rw [rd_at l i hlt, wsucc hlt (by omega)]
    by_cases hc : l[i] < n
    · exact ev_pos hc (ih (i + 1) (by omega) (s1 hc))
    · refine ev_neg hc ?_
      by_cases he : l[i] = n
      · refine ev_eq (ev_pos he (ev_const rfl)) ?_
        rw [put_eq, s2 hc, if_pos (by rw [List.getElem?_eq_getElem hlt, he])]
      · refine ev_neg he (ev_const ?_)
        rw [stop i (by omega) (s2 hc) (by rw [List.getElem?_eq_getElem hlt]; simpa using he)]
        simp only [Option.bind_some, List.nil_append, List.length_nil, List.length_append, List.length_take, List.length_drop, List.length_singleton, Int.toNat_natCast]
        rw [if_pos (by omega), if_pos (by omega), if_pos (by omega), if_pos (by omega)]
theorem put_ev (l : List Int) (n : Int) (hl : l.length ≤ 1048576) : Ev (fun k => spec_l1Put.f k l n) (put l n) := by
  unfold spec_l1Put.f
  exact put_l l n hl l.length 0 (by omega) (by omega)
end Go.Proofs.Ytmggkimmnekhcaa.US
namespace Go.Proofs.Ytmggkimmnekhcaa.UY
open Go.RowKit Go.Proofs.YtmggkimmnekhcaaW.PrintWords Go.Proofs.YtmggkimmnekhcaaW.PrintMore Go.Proofs.Ytmggkimmnekhcaa.P Go.Proofs.Ytmggkimmnekhcaa.U Go.Proofs.Ytmggkimmnekhcaa.UT Go.Proofs.Ytmggkimmnekhcaa.US
set_option linter.unusedVariables false

def badR (row : List Int) : Nat → Nat → List Int
  | 0, _ => []
  | d + 1, j => (if bad row j = true then [row.getD j 0] else []) ++ badR row d (j + 1)
def badA : List (List Int) → List Int
  | [] => []
  | r :: l => badR r r.length 0 ++ badA l
theorem blist_badR (row : List Int) : ∀ d j (acc : List Int), blist row d j acc = acc ++ badR row d j
  | 0, _, acc => by simp [blist, badR]
  | d + 1, j, acc => by
    unfold blist badR
    rw [blist_badR row d]
    split
    · rw [List.append_assoc]
    · rw [List.nil_append]
theorem badR_sub (row : List Int) : ∀ d j, j + d = row.length → (badR row d j).Sublist (row.drop j)
  | 0, j, h => by unfold badR; exact List.nil_sublist _
  | d + 1, j, h => by
    have hlt : j < row.length := by omega
    unfold badR
    rw [List.drop_eq_getElem_cons hlt, getD_at _ _ _ hlt]
    have ih := badR_sub row d (j + 1) (by omega)
    split
    · exact ih.cons_cons _
    · rw [List.nil_append]; exact ih.cons _
theorem badA_sub : ∀ (l : List (List Int)), (badA l).Sublist l.flatten
  | [] => List.Sublist.refl _
  | r :: l => by
    unfold badA
    rw [List.flatten_cons]
    exact (badR_sub r r.length 0 (by omega)).append (badA_sub l)
theorem badR_len (row : List Int) : ∀ d j, (badR row d j).length ≤ d
  | 0, _ => Nat.le_refl _
  | d + 1, j => by
    unfold badR
    have := badR_len row d (j + 1)
    rw [List.length_append]
    split
    · rw [List.length_singleton]; omega
    · rw [List.length_nil]; omega
theorem badA_len : ∀ (l : List (List Int)), (∀ x, x ∈ l → x.length ≤ 4) → (badA l).length ≤ 4 * l.length
  | [], _ => Nat.le_refl _
  | r :: l, h => by
    unfold badA
    have h1 := badR_len r r.length 0
    have h2 := h r List.mem_cons_self
    have h3 := badA_len l (fun x hx => h x (List.mem_cons_of_mem _ hx))
    rw [List.length_append, List.length_cons]; omega
theorem badA_nodup {l : List (List Int)} (h : okYard l = true) : (badA l).Nodup := by
  unfold okYard at h
  rw [Bool.and_eq_true] at h
  obtain ⟨t, ht⟩ := Option.isSome_iff_exists.mp h.2
  exact (badA_sub l).nodup (chkRows_once 4 l [] t ht).2.1
theorem bad_l {l : List (List Int)} (hn : l.length ≤ 6) (h4 : ∀ x, x ∈ l → x.length ≤ 4) : ∀ d i (acc : List Int), i + d = l.length → acc.length ≤ 4 * i → Ev (fun k => spec_l8Bad.l0 k acc (i : Int) l) (puts acc (badA (l.drop i))) := by
  intro d
  induction d with
  | zero =>
    intro i acc hi ha
    refine Ev.step (fun k => by simp only [spec_l8Bad.l0]; rfl) (ev_neg (by omega) (ev_const ?_))
    rw [List.drop_of_length_le (by omega)]; rfl
  | succ d ih =>
    intro i acc hi ha
    have hlt : i < l.length := by omega
    have h4i := h4 _ (List.getElem_mem hlt)
    refine Ev.step (fun k => by simp only [spec_l8Bad.l0]; rfl) (ev_pos (by omega) ?_)
    rw [List.drop_eq_getElem_cons hlt]
    have inner : ∀ e j (acc : List Int), j + e = l[i].length → acc.length ≤ 4 * i + j → Ev (fun k => spec_l8Bad.l1 k acc (i : Int) (j : Int) l) (puts (puts acc (badR l[i] e j)) (badA (l.drop (i + 1)))) := by
      intro e
      induction e with
      | zero =>
        intro j acc hj ha
        refine Ev.step (fun k => by simp only [spec_l8Bad.l1]; rfl) (ev_pos (by omega) (ev_pos (by omega) ?_))
        rw [rd_l1 l i hlt, wsucc hlt (by omega)]
        exact ev_neg (by omega) (ih (i + 1) acc (by omega) (by omega))
      | succ e ihe =>
        intro j acc hj ha
        have hjt : j < l[i].length := by omega
        refine Ev.step (fun k => by simp only [spec_l8Bad.l1]; rfl) (ev_pos (by omega) (ev_pos (by omega) ?_))
        rw [rd_l1 l i hlt, rd_at _ j hjt, wsucc hjt (by omega)]
        obtain ⟨c, hc, _, hb⟩ := bad_spec l[i] j hjt (by omega)
        refine ev_pos (by omega) (Ev.bind hc ?_)
        unfold badR
        rw [getD_at _ _ _ hjt]
        by_cases h0 : c > 0
        · rw [decide_eq_true h0] at hb
          rw [if_pos hb.symm]
          refine ev_pos h0 (ev_pos (by omega) (Ev.bind (put_ev acc l[i][j] (by omega)) ?_))
          have hp := put_len l[i][j] acc
          exact ihe (j + 1) _ (by omega) (by omega)
        · rw [decide_eq_false h0] at hb
          rw [if_neg (by rw [← hb]; simp)]
          exact ev_neg h0 (ihe (j + 1) acc (by omega) (by omega))
    have h := inner l[i].length 0 acc (by omega) (by omega)
    unfold badA
    rw [puts_app]
    exact h
theorem bad_ev {l : List (List Int)} (hn : l.length ≤ 6) (h4 : ∀ x, x ∈ l → x.length ≤ 4) : Ev (fun k => spec_l8Bad.f k l) (puts [] (badA l)) := by
  unfold spec_l8Bad.f
  exact bad_l hn h4 l.length 0 [] (by omega) (by simp)
theorem sort_ev (l : List Int) (h : l.length ≤ 1048576) : slices_Sort_int_int.f l = some (l.mergeSort fun x y => decide (x ≤ y)) := by
  unfold slices_Sort_int_int.f
  rw [if_pos (by omega)]
theorem all_impl_l {l : List (List Int)} (hn : l.length ≤ 6) (h4 : ∀ x, x ∈ l → x.length ≤ 4) : ∀ d i (acc : List Int), i + d = l.length → acc.length ≤ 4 * i → Ev (fun k => impl_allBadlyPlaced.l0 k acc l (l.length : Int) (i : Int)) ((acc ++ badA (l.drop i)).mergeSort fun x y => decide (x ≤ y)) := by
  intro d
  induction d with
  | zero =>
    intro i acc hi ha
    refine Ev.step (fun k => by simp only [impl_allBadlyPlaced.l0]; rfl) (ev_neg (by omega) (ev_const ?_))
    rw [List.drop_of_length_le (by omega), sort_ev acc (by omega), show badA [] = [] from rfl, List.append_nil]; rfl
  | succ d ih =>
    intro i acc hi ha
    have hlt : i < l.length := by omega
    have h4i := h4 _ (List.getElem_mem hlt)
    refine Ev.step (fun k => by simp only [impl_allBadlyPlaced.l0]; rfl) (ev_pos (by omega) (ev_pos (by omega) (ev_pos (by omega) ?_)))
    rw [rd_l1 l i hlt, wsucc hlt (by omega), List.drop_eq_getElem_cons hlt]
    refine Ev.bind (bp_ev l[i] (by omega)) ?_
    rw [blist_badR, List.nil_append]
    have hb := badR_len l[i] l[i].length 0
    refine ev_pos (by omega) ?_
    have h := ih (i + 1) (acc ++ badR l[i] l[i].length 0) (by omega) (by rw [List.length_append]; omega)
    rw [List.append_assoc] at h
    exact h
theorem all_impl {l : List (List Int)} (h : okYard l = true) : Ev (fun k => impl_allBadlyPlaced.f k l) (puts [] (badA l)) := by
  have hy := okYard_mem h
  unfold impl_allBadlyPlaced.f
  have e := all_impl_l hy.1.2 (fun x hx => (hy.2 x hx).1) l.length 0 [] (by omega) (by simp)
  rw [List.drop_zero, List.nil_append, sort_puts _ (badA_nodup h)] at e
  exact e
end Go.Proofs.Ytmggkimmnekhcaa.UY
namespace Go.Proofs.Ytmggkimmnekhcaa.UY
open Go.RowKit Go.Proofs.YtmggkimmnekhcaaW.PrintWords Go.Proofs.YtmggkimmnekhcaaW.PrintMore Go.Proofs.Ytmggkimmnekhcaa.P Go.Proofs.Ytmggkimmnekhcaa.U Go.Proofs.Ytmggkimmnekhcaa.UT
set_option linter.unusedVariables false

/-! Where a number stands. -/
def inYard (l : List (List Int)) (v : Int) : Bool := l.any fun r => r.contains v
def findR (v : Int) : List (List Int) → Nat → Int × Int
  | [], _ => (-1, -1)
  | r :: l, i => if r.contains v = true then ((i : Int), (r.idxOf v : Int)) else findR v l (i + 1)
theorem findR_in (v : Int) : ∀ (l : List (List Int)) (i : Nat), decide ((findR v l i).1 ≥ 0) = inYard l v
  | [], i => by simp [findR, inYard]
  | r :: l, i => by
    unfold findR inYard
    rw [List.any_cons]
    by_cases h : r.contains v = true
    · rw [if_pos h, h]; simp
    · have hf : r.contains v = false := by simpa using h
      rw [if_neg h, findR_in v l (i + 1), hf]; rfl
theorem idx_l (l : List Int) (v : Int) (hn : l.length ≤ 1048576) : ∀ d i, i + d = l.length → Ev (fun k => slices_Index_int_int.l0 k l v (l.length : Int) (i : Int)) (if (l.drop i).contains v = true then ((i + (l.drop i).idxOf v : Nat) : Int) else -1) := by
  intro d
  induction d with
  | zero =>
    intro i hi
    refine Ev.step (fun k => by simp only [slices_Index_int_int.l0]; rfl) ?_
    refine ev_neg (by omega) (ev_const ?_)
    rw [List.drop_of_length_le (by omega)]; rfl
  | succ d ih =>
    intro i hi
    have hlt : i < l.length := by omega
    refine Ev.step (fun k => by simp only [slices_Index_int_int.l0]; rfl) ?_
    refine ev_pos (by omega) (ev_pos (by omega) (ev_pos (by omega) ?_))
    rw [rd_at l i hlt, wsucc hlt (by omega), List.drop_eq_getElem_cons hlt]
    by_cases hc : v = l[i]
    · refine ev_eq (ev_pos hc (ev_const rfl)) ?_
      rw [if_pos (by rw [List.contains_cons, show (v == l[i]) = true by simpa using hc]; rfl), List.idxOf_cons, show (l[i] == v) = true by simpa using hc.symm]; simp
    · have e := ih (i + 1) (by omega)
      refine ev_eq (ev_neg hc e) ?_
      have hb : (l[i] == v) = false := by simp; omega
      rw [List.contains_cons, List.idxOf_cons, hb, show (v == l[i]) = false by simp; omega]
      simp only [Bool.false_or, cond_false]
      by_cases h2 : (l.drop (i + 1)).contains v = true
      · rw [if_pos h2, if_pos h2]; omega
      · rw [if_neg h2, if_neg h2]
theorem idx_ev (l : List Int) (v : Int) (hn : l.length ≤ 1048576) : Ev (fun k => slices_Index_int_int.f k l v) (if l.contains v = true then ((l.idxOf v : Nat) : Int) else -1) := by
  unfold slices_Index_int_int.f
  have h := idx_l l v hn l.length 0 (by omega)
  rw [List.drop_zero, Nat.zero_add] at h
  exact h
theorem contains_impl (l : List Int) (v : Int) (hn : l.length ≤ 1048576) : Ev (fun k => slices_Contains_int_int.f k l v) (l.contains v) := by
  unfold slices_Contains_int_int.f
  refine Ev.bind (idx_ev l v hn) (ev_const ?_)
  cases h : l.contains v
  · rfl
  · rw [if_pos rfl]; simp
theorem place_l (l : List (List Int)) (v : Int) (hn : l.length ≤ 1048576) (hx : ∀ x, x ∈ l → x.length ≤ 1048576) : ∀ d i, i + d = l.length → Ev (fun k => impl_placeOf.l0 k v l (l.length : Int) (i : Int)) (findR v (l.drop i) i) := by
  intro d
  induction d with
  | zero =>
    intro i hi
    refine Ev.step (fun k => by simp only [impl_placeOf.l0]; rfl) ?_
    refine ev_neg (by omega) (ev_const ?_)
    rw [List.drop_of_length_le (by omega)]; rfl
  | succ d ih =>
    intro i hi
    have hlt : i < l.length := by omega
    refine Ev.step (fun k => by simp only [impl_placeOf.l0]; rfl) ?_
    refine ev_pos (by omega) (ev_pos (by omega) (ev_pos (by omega) ?_))
    rw [rd_l1 l i hlt, wsucc hlt (by omega), List.drop_eq_getElem_cons hlt]
    refine Ev.bind (idx_ev _ v (hx _ (List.getElem_mem hlt))) ?_
    unfold findR
    cases h : l[i].contains v
    · rw [if_neg (by simp), if_neg (by simp)]
      exact ev_neg (by omega) (ih (i + 1) (by omega))
    · rw [if_pos rfl, if_pos rfl]
      exact ev_pos (by omega) (ev_const rfl)
theorem place_impl (l : List (List Int)) (v : Int) (hn : l.length ≤ 1048576) (hx : ∀ x, x ∈ l → x.length ≤ 1048576) : Ev (fun k => impl_placeOf.f k l v) (findR v l 0) := by
  unfold impl_placeOf.f
  exact place_l l v hn hx l.length 0 (by omega)
theorem find_l (l : List (List Int)) (v : Int) (hn : l.length ≤ 1048576) (hx : ∀ x, x ∈ l → x.length ≤ 1048576) : ∀ d i, i + d = l.length → Ev (fun k => spec_l5Find.l0 k v (i : Int) l) (findR v (l.drop i) i) := by
  intro d
  induction d with
  | zero =>
    intro i hi
    refine Ev.step (fun k => by simp only [spec_l5Find.l0]; rfl) ?_
    refine ev_neg (by omega) (ev_const ?_)
    rw [List.drop_of_length_le (by omega)]; rfl
  | succ d ih =>
    intro i hi
    have hlt : i < l.length := by omega
    have hxi := hx _ (List.getElem_mem hlt)
    refine Ev.step (fun k => by simp only [spec_l5Find.l0]; rfl) ?_
    refine ev_pos (by omega) ?_
    rw [List.drop_eq_getElem_cons hlt]
    have inner : ∀ e j, j + e = l[i].length → Ev (fun k => spec_l5Find.l1 k v (i : Int) (j : Int) l) (if (l[i].drop j).contains v = true then ((i : Int), ((j + (l[i].drop j).idxOf v : Nat) : Int)) else findR v (l.drop (i + 1)) (i + 1)) := by
      intro e
      induction e with
      | zero =>
        intro j hj
        refine Ev.step (fun k => by simp only [spec_l5Find.l1]; rfl) ?_
        refine ev_pos (by omega) (ev_pos (by omega) ?_)
        rw [rd_l1 l i hlt, wsucc hlt (by omega), List.drop_of_length_le (show l[i].length ≤ j by omega)]
        exact ev_neg (by omega) (ih (i + 1) (by omega))
      | succ e ihe =>
        intro j hj
        have hjt : j < l[i].length := by omega
        refine Ev.step (fun k => by simp only [spec_l5Find.l1]; rfl) ?_
        refine ev_pos (by omega) (ev_pos (by omega) ?_)
        rw [rd_l1 l i hlt, rd_at _ j hjt, wsucc hjt (by omega), List.drop_eq_getElem_cons hjt]
        refine ev_pos (by omega) (ev_pos (by omega) ?_)
        by_cases hc : l[i][j] = v
        · refine ev_eq (ev_pos hc (ev_const rfl)) ?_
          rw [if_pos (by simp [hc]), List.idxOf_cons, hc]; simp
        · refine ev_eq (ev_neg hc (ihe (j + 1) (by omega))) ?_
          have hb : (l[i][j] == v) = false := by simp; omega
          rw [List.contains_cons, List.idxOf_cons, hb, show (v == l[i][j]) = false by simp; omega]
          simp only [Bool.false_or, cond_false]
          by_cases h2 : (l[i].drop (j + 1)).contains v = true
          · rw [if_pos h2, if_pos h2]; simp only [Prod.mk.injEq, true_and]; omega
          · rw [if_neg h2, if_neg h2]
    have h := inner l[i].length 0 (by omega)
    rw [List.drop_zero, Nat.zero_add] at h
    exact h
theorem find_spec (l : List (List Int)) (v : Int) (hn : l.length ≤ 1048576) (hx : ∀ x, x ∈ l → x.length ≤ 1048576) : Ev (fun k => spec_l5Find.f k l v) (findR v l 0) := by
  unfold spec_l5Find.f
  exact find_l l v hn hx l.length 0 (by omega)

/-! Numbers that may come. -/
def arrs (l : List (List Int)) : List Int → List Int → Bool
  | _, [] => true
  | pre, x :: xs => inr x 1 99 && (!(inYard l x) && (!(pre.contains x) && arrs l (pre ++ [x]) xs))
theorem arr_spec (l : List (List Int)) (hn : l.length ≤ 1048576) (hx : ∀ x, x ∈ l → x.length ≤ 1048576) (a : List Int) (ha : a.length ≤ 1048576) : ∀ d i, i + d = a.length →
    Ev (fun k => spec_l8Arrivals.l0 k a (i : Int) l) (arrs l (a.take i) (a.drop i) && decide ((a.length : Int) ≤ 5)) := by
  intro d
  induction d with
  | zero =>
    intro i hi
    refine Ev.step (fun k => by simp only [spec_l8Arrivals.l0]; rfl) ?_
    refine ev_neg (by omega) (ev_const ?_)
    rw [List.drop_of_length_le (by omega)]; rfl
  | succ d ih =>
    intro i hi
    have hlt : i < a.length := by omega
    refine Ev.step (fun k => by simp only [spec_l8Arrivals.l0]; rfl) ?_
    refine ev_pos (by omega) (ev_pos (by omega) ?_)
    rw [rd_at a i hlt, wsucc hlt (by omega), List.drop_eq_getElem_cons hlt]
    unfold arrs
    refine Ev.bind (find_spec l _ hn hx) ?_
    have hf := findR_in a[i] l 0
    cases h1 : inYard l a[i]
    · rw [h1] at hf
      refine ev_neg (of_decide_eq_false hf) (ev_call (in_spec _ _ _) ?_)
      cases h2 : inr a[i] 1 99
      · exact ev_neg (by simp) (ev_const rfl)
      · refine ev_pos rfl (ev_pos (by omega) ?_)
        have hh := has_ev (a.take i) a[i] (by rw [List.length_take]; omega)
        rw [Int.toNat_natCast]
        refine Ev.bind hh ?_
        have hi2 := ih (i + 1) (by omega)
        rw [List.take_succ_eq_append_getElem hlt] at hi2
        cases h3 : (a.take i).contains a[i]
        · exact ev_neg (by simp) hi2
        · exact ev_pos rfl (ev_const rfl)
    · rw [h1] at hf
      refine ev_eq (ev_pos (of_decide_eq_true hf) (ev_const rfl)) (by simp)
theorem asked_spec (l : List (List Int)) (hn : l.length ≤ 1048576) (hx : ∀ x, x ∈ l → x.length ≤ 1048576) (a : List Int) (ha : a.length ≤ 1048576) :
    Ev (fun k => spec_l8Asked.f k l a) (okYard l && (arrs l [] a && decide ((a.length : Int) ≤ 5))) := by
  unfold spec_l8Asked.f
  refine Ev.bind (good_spec l hn hx) ?_
  cases okYard l
  · exact ev_neg (by simp) (ev_const rfl)
  · refine ev_pos rfl (Ev.bind (a := arrs l [] a && decide ((a.length : Int) ≤ 5)) ?_ (ev_const rfl))
    unfold spec_l8Arrivals.f
    exact arr_spec l hn hx a ha a.length 0 (by omega)
theorem within_impl (a b c : Int) : impl_within.f a b c = some (inr a b c) := by
  unfold impl_within.f inr
  by_cases h : b ≤ a <;> simp [h]
theorem arr_impl (l : List (List Int)) (hn : l.length ≤ 1048576) (hx : ∀ x, x ∈ l → x.length ≤ 1048576) (a : List Int) (ha : a.length ≤ 1048576) : ∀ d i, i + d = a.length →
    Ev (fun k => impl_areArrivals.l0 k a a (a.length : Int) (i : Int) l) (arrs l (a.take i) (a.drop i)) := by
  intro d
  induction d with
  | zero =>
    intro i hi
    refine Ev.step (fun k => by simp only [impl_areArrivals.l0]; rfl) ?_
    refine ev_neg (by omega) (ev_const ?_)
    rw [List.drop_of_length_le (by omega)]; rfl
  | succ d ih =>
    intro i hi
    have hlt : i < a.length := by omega
    refine Ev.step (fun k => by simp only [impl_areArrivals.l0]; rfl) ?_
    refine ev_pos (by omega) (ev_pos (by omega) (ev_pos (by omega) ?_))
    rw [rd_at a i hlt, wsucc hlt (by omega), List.drop_eq_getElem_cons hlt]
    unfold arrs
    refine Ev.bind (place_impl l _ hn hx) (ev_call (within_impl _ _ _) ?_)
    have hf := findR_in a[i] l 0
    cases h2 : inr a[i] 1 99
    · exact ev_neg (by simp) (ev_const rfl)
    refine ev_pos rfl ?_
    cases h1 : inYard l a[i]
    · rw [h1] at hf
      refine ev_neg (of_decide_eq_false hf) (ev_pos (by omega) ?_)
      have hh := contains_impl (a.take i) a[i] (by rw [List.length_take]; omega)
      rw [Int.toNat_natCast]
      refine Ev.bind hh ?_
      have hi2 := ih (i + 1) (by omega)
      rw [List.take_succ_eq_append_getElem hlt] at hi2
      cases h3 : (a.take i).contains a[i]
      · exact ev_neg (by simp) hi2
      · exact ev_pos rfl (ev_const rfl)
    · rw [h1] at hf
      refine ev_eq (ev_pos (of_decide_eq_true hf) (ev_const rfl)) (by simp)
theorem asked_impl (l : List (List Int)) (hn : l.length ≤ 1048576) (hx : ∀ x, x ∈ l → x.length ≤ 1048576) (a : List Int) (ha : a.length ≤ 1048576) :
    Ev (fun k => impl_areArrivals.f k l a) (okYard l && (arrs l [] a && decide ((a.length : Int) ≤ 5))) := by
  unfold impl_areArrivals.f
  refine ev_call (show impl_IsValidYard.f l = some (okYard l) from rfl) ?_
  cases okYard l
  · refine ev_neg (by simp) (Ev.step (fun k => by simp only [impl_areArrivals.j0]; rfl) ?_)
    exact ev_pos (by simp) (ev_const rfl)
  · refine ev_pos rfl (Ev.step (fun k => by simp only [impl_areArrivals.j0]; rfl) ?_)
    by_cases h : (a.length : Int) > 5
    · refine ev_eq (ev_pos (by simpa using h) (ev_const rfl)) ?_
      rw [decide_eq_false (by omega)]; simp
    · refine ev_eq (ev_neg (by simpa using h) (arr_impl l hn hx a ha a.length 0 (by omega))) ?_
      rw [decide_eq_true (by omega)]; simp
end Go.Proofs.Ytmggkimmnekhcaa.UY
namespace Go.Proofs.Ytmggkimmnekhcaa.UY
open Go.RowKit Go.Proofs.YtmggkimmnekhcaaW.PrintWords Go.Proofs.YtmggkimmnekhcaaW.PrintMore Go.Proofs.Ytmggkimmnekhcaa.P Go.Proofs.Ytmggkimmnekhcaa.U Go.Proofs.Ytmggkimmnekhcaa.UT
set_option linter.unusedVariables false

theorem own1_spec (l : List Int) (hn : l.length ≤ 1048576) : spec_l1Own.f l = some l := by
  unfold spec_l1Own.f
  show (if ([] : List Int).length + l.length < 17592186044416 then some ([] ++ l) else none) = some l
  rw [if_pos (by simp; omega)]; rfl
theorem own_spec_l (l : List (List Int)) (hn : l.length ≤ 1048576) (hx : ∀ x, x ∈ l → x.length ≤ 1048576) : ∀ d i, i + d = l.length → Ev (fun k => spec_l5Own.l0 k (i : Int) l (l.take i)) l := by
  intro d
  induction d with
  | zero =>
    intro i hi
    refine Ev.step (fun k => by simp only [spec_l5Own.l0]; rfl) (ev_neg (by omega) (ev_const ?_))
    rw [List.take_of_length_le (by omega)]
  | succ d ih =>
    intro i hi
    have hlt : i < l.length := by omega
    refine Ev.step (fun k => by simp only [spec_l5Own.l0]; rfl) (ev_pos (by omega) (ev_pos (by omega) ?_))
    rw [rd_l1 l i hlt, wsucc hlt (by omega)]
    refine ev_call (own1_spec _ (hx _ (List.getElem_mem hlt))) (ev_pos (by rw [List.length_take]; omega) ?_)
    have h := ih (i + 1) (by omega)
    rw [List.take_succ_eq_append_getElem hlt] at h
    exact h
theorem own_spec (l : List (List Int)) (hn : l.length ≤ 1048576) (hx : ∀ x, x ∈ l → x.length ≤ 1048576) : Ev (fun k => spec_l5Own.f k l) l := by
  unfold spec_l5Own.f
  exact own_spec_l l hn hx l.length 0 (by omega)
end Go.Proofs.Ytmggkimmnekhcaa.UY
namespace Go.Proofs.Ytmggkimmnekhcaa.UD
open Go.RowKit Go.Proofs.YtmggkimmnekhcaaW.PrintWords Go.Proofs.YtmggkimmnekhcaaW.PrintMore Go.Proofs.Ytmggkimmnekhcaa.P Go.Proofs.Ytmggkimmnekhcaa.U
set_option linter.unusedVariables false

def codeOk (c : List Int) : Prop := c.length ≤ 65536 ∧ ∀ x, x ∈ c → 0 ≤ x ∧ x ≤ 255
theorem wf_u8 {x : Int} (h : (Lit.int .u8 x).wf = true) : 0 ≤ x ∧ x ≤ 255 := by
  have h1 : (decide (IntKind.u8.min ≤ x) && decide (x ≤ IntKind.u8.max)) = true := h
  rw [Bool.and_eq_true, decide_eq_true_iff, decide_eq_true_iff] at h1
  exact h1
theorem wrap_u64 (n : Int) : IntKind.u64.wrap n = n % 18446744073709551616 := by simp [IntKind.wrap, IntKind.bits, IntKind.signed]
theorem u64_low (n : Int) : 0 ≤ wrap64 (Go.bits .and .u64 (IntKind.u64.wrap n / 1099511627776) 255) ∧ wrap64 (Go.bits .and .u64 (IntKind.u64.wrap n / 1099511627776) 255) ≤ 255 := by
  have h : IntKind.u64.wrap n = n % 18446744073709551616 := wrap_u64 n
  have e := bits_mask .u64 24 (by decide) (fun m h0 h1 => by rw [wrap_u64]; omega) 8 (by decide) (IntKind.u64.wrap n / 1099511627776) (by omega) (by omega)
  have e2 : Go.bits .and .u64 (IntKind.u64.wrap n / 1099511627776) 255 = IntKind.u64.wrap n / 1099511627776 % 256 := e
  rw [e2, wr (by omega) (by omega)]
  omega
theorem next_ev {c : List Int} (hc : codeOk c) {i s : Int} (hi : 0 ≤ i ∧ i ≤ 1000000000) : ∃ r s', spec_l1Cur_next.f c i s = some (r, i + 1, s') ∧ 0 ≤ r ∧ r ≤ 255 := by
  have hw : wrap64 (i + 1) = i + 1 := wr (by omega) (by omega)
  unfold spec_l1Cur_next.f
  rw [hw]
  by_cases h1 : i < (c.length : Int)
  · obtain ⟨n, rfl⟩ := Int.eq_ofNat_of_zero_le hi.1
    have hn : n < c.length := by omega
    have hb := hc.2 _ (List.getElem_mem hn)
    rw [if_pos h1, if_pos hi.1, if_pos (by omega), rd_at c n hn]
    exact ⟨_, _, rfl, by rw [wr (by omega) (by omega)]; exact hb⟩
  · rw [if_neg h1, if_neg (by have := hc.1; omega)]
    exact ⟨_, _, rfl, u64_low _⟩
theorem tmod_in {b n : Int} (hb : 0 ≤ b) (hn : 0 < n) : 0 ≤ Int.tmod b n ∧ Int.tmod b n < n := by
  rw [Int.tmod_eq_emod_of_nonneg hb]
  exact ⟨Int.emod_nonneg _ (by omega), Int.emod_lt_of_pos _ hn⟩
theorem pick_ev {c : List Int} (hc : codeOk c) {i s n : Int} (hi : 0 ≤ i ∧ i ≤ 999999990) : ∃ r j s', spec_l1Cur_pick.f c i s n = some (r, j, s') ∧ 0 ≤ r ∧ (r < n ∨ n ≤ 1 ∧ r = 0) ∧ i ≤ j ∧ j ≤ i + 2 := by
  unfold spec_l1Cur_pick.f
  by_cases h1 : n ≤ 1
  · rw [if_pos h1]
    exact ⟨0, i, s, rfl, by omega, Or.inr ⟨h1, rfl⟩, by omega, by omega⟩
  rw [if_neg h1]
  obtain ⟨r1, s1, e1, b1⟩ := next_ev hc (s := s) (i := i) (by omega)
  rw [e1, Option.bind_some]
  dsimp only
  by_cases h2 : n > 200
  · rw [if_pos h2]
    obtain ⟨r2, s2, e2, b2⟩ := next_ev hc (s := s1) (i := i + 1) (by omega)
    rw [e2, Option.bind_some]
    dsimp only
    rw [if_neg (by omega), wr (x := r1 * 256) (by omega) (by omega), wr (x := r1 * 256 + r2) (by omega) (by omega)]
    have := tmod_in (b := r1 * 256 + r2) (n := n) (by omega) (by omega)
    exact ⟨_, _, _, rfl, this.1, Or.inl this.2, by omega, by omega⟩
  · rw [if_neg h2, if_neg (by omega)]
    have := tmod_in (b := r1) (n := n) (by omega) (by omega)
    exact ⟨_, _, _, rfl, this.1, Or.inl this.2, by omega, by omega⟩
theorem among_ev {c : List Int} (hc : codeOk c) {i s : Int} (hi : 0 ≤ i ∧ i ≤ 999999990) (l : List Int) (hl : 0 < l.length) : ∃ r j s', spec_l1Cur_among.f c i s l = some (r, j, s') ∧ r ∈ l ∧ i ≤ j ∧ j ≤ i + 2 := by
  unfold spec_l1Cur_among.f
  obtain ⟨r, j, s1, e, h0, h1, h2⟩ := pick_ev hc (s := s) (n := (l.length : Int)) hi
  rw [e, Option.bind_some]
  dsimp only
  have hr : r < (l.length : Int) := by rcases h1 with h1 | h1 <;> omega
  rw [if_pos h0, if_pos hr]
  obtain ⟨n, rfl⟩ := Int.eq_ofNat_of_zero_le h0
  have hn : n < l.length := by omega
  exact ⟨_, _, _, rfl, by rw [rd_at l n hn]; exact List.getElem_mem hn, h2⟩
end Go.Proofs.Ytmggkimmnekhcaa.UD
namespace Go.Proofs.Ytmggkimmnekhcaa.UY
open Go.RowKit Go.Proofs.YtmggkimmnekhcaaW.PrintWords Go.Proofs.YtmggkimmnekhcaaW.PrintMore Go.Proofs.Ytmggkimmnekhcaa.P Go.Proofs.Ytmggkimmnekhcaa.U Go.Proofs.Ytmggkimmnekhcaa.UT
set_option linter.unusedVariables false

def srt (row : List Int) : Nat → Nat → Bool → Bool
  | 0, _, b => b
  | d + 1, j, b => srt row d (j + 1) (b && !bad row j)
theorem srt_blist (row : List Int) : ∀ d j (acc : List Int), srt row d j acc.isEmpty = (blist row d j acc).isEmpty
  | 0, _, _ => rfl
  | d + 1, j, acc => by
    unfold srt blist
    rw [← srt_blist row d (j + 1)]
    cases bad row j
    · simp
    · rw [if_pos rfl, show (acc ++ [row.getD j 0]).isEmpty = false by cases acc <;> rfl]; simp
def sst (l : List (List Int)) : Nat → Nat → List Int → List Int
  | 0, _, acc => acc
  | d + 1, i, acc => sst l d (i + 1) (if srt (rd_L2 l i) (rd_L2 l i).length 0 true = true then acc ++ [(i : Int)] else acc)
theorem sst_len (l : List (List Int)) : ∀ d i (acc : List Int), (sst l d i acc).length ≤ acc.length + d
  | 0, _, _ => Nat.le_refl _
  | d + 1, i, acc => by
    unfold sst
    refine Nat.le_trans (sst_len l d (i + 1) _) ?_
    split
    · rw [List.length_append, List.length_singleton]; omega
    · omega
theorem ss_impl (l : List (List Int)) (hn : l.length ≤ 1048576) (hx : ∀ x, x ∈ l → x.length ≤ 1048576) : ∀ d i (acc : List Int), i + d = l.length → acc.length ≤ i → Ev (fun k => impl_SortedStacks.l0 k acc l (l.length : Int) (i : Int)) (sst l d i acc, true) := by
  intro d
  induction d with
  | zero =>
    intro i acc hi ha
    exact Ev.step (fun k => by simp only [impl_SortedStacks.l0]; rfl) (ev_neg (by omega) (ev_const rfl))
  | succ d ih =>
    intro i acc hi ha
    have hlt : i < l.length := by omega
    refine Ev.step (fun k => by simp only [impl_SortedStacks.l0]; rfl) ?_
    refine ev_pos (by omega) (ev_pos (by omega) (ev_pos (by omega) ?_))
    rw [wsucc hlt (by omega)]
    unfold sst
    rw [rd_l1 l i hlt]
    refine Ev.bind (bp_ev _ (hx _ (List.getElem_mem hlt))) ?_
    have hs := srt_blist l[i] l[i].length 0 []
    rw [show ([] : List Int).isEmpty = true from rfl] at hs
    rw [hs]
    cases hb : blist l[i] l[i].length 0 [] with
    | nil =>
      rw [if_pos (show ([] : List Int).isEmpty = true from rfl)]
      exact ev_pos (by simp) (ev_pos (by omega) (ih (i + 1) _ (by omega) (by rw [List.length_append, List.length_singleton]; omega)))
    | cons x r =>
      rw [if_neg (by simp)]
      exact ev_neg (by simp; omega) (ih (i + 1) _ (by omega) (by omega))
end Go.Proofs.Ytmggkimmnekhcaa.UY
namespace Go.Proofs.Ytmggkimmnekhcaa.UY
open Go.RowKit Go.Proofs.YtmggkimmnekhcaaW.PrintWords Go.Proofs.YtmggkimmnekhcaaW.PrintMore Go.Proofs.Ytmggkimmnekhcaa.P Go.Proofs.Ytmggkimmnekhcaa.U Go.Proofs.Ytmggkimmnekhcaa.UT
set_option linter.unusedVariables false

def upd (s : Int × Int) (n c : Int) : Int × Int := if c > s.2 then (n, c) else if c = s.2 then (if c > 0 then (if n < s.1 then (n, c) else s) else s) else s
def wrow (row : List Int) : Nat → Nat → Int × Int → Int × Int
  | 0, _, s => s
  | d + 1, j, s => wrow row d (j + 1) (upd s (row.getD j 0) (cntLess (row.getD j 0) (row.take j) 0))
def wtab : List (List Int) → Int × Int → Int × Int
  | [], s => s
  | row :: l, s => wtab l (wrow row row.length 0 s)
def wfin (s : Int × Int) : Int × Int × Bool := (s.1, s.2, decide (s.2 > 0))
theorem worst_spec_l (l : List (List Int)) (hn : l.length ≤ 1048576) (hx : ∀ x, x ∈ l → x.length ≤ 1048576) : ∀ d i (s : Int × Int), i + d = l.length → Ev (fun k => spec_WorstBox.l0 k s.1 s.2 (i : Int) l) (wfin (wtab (l.drop i) s)) := by
  intro d
  induction d with
  | zero =>
    intro i s hi
    refine Ev.step (fun k => by simp only [spec_WorstBox.l0]; rfl) ?_
    refine ev_neg (by omega) (ev_const ?_)
    rw [List.drop_of_length_le (by omega)]; rfl
  | succ d ih =>
    intro i s hi
    have hlt : i < l.length := by omega
    have hxi := hx _ (List.getElem_mem hlt)
    refine Ev.step (fun k => by simp only [spec_WorstBox.l0]; rfl) ?_
    refine ev_pos (by omega) ?_
    rw [List.drop_eq_getElem_cons hlt]
    have inner : ∀ e j (s : Int × Int), j + e = l[i].length → Ev (fun k => spec_WorstBox.l1 k s.1 s.2 (i : Int) (j : Int) l) (wfin (wtab (l.drop (i + 1)) (wrow l[i] e j s))) := by
      intro e
      induction e with
      | zero =>
        intro j s hj
        refine Ev.step (fun k => by simp only [spec_WorstBox.l1]; rfl) ?_
        refine ev_pos (by omega) (ev_pos (by omega) ?_)
        rw [rd_l1 l i hlt, wsucc hlt (by omega)]
        exact ev_neg (by omega) (ih (i + 1) s (by omega))
      | succ e ihe =>
        intro j s hj
        have hjt : j < l[i].length := by omega
        refine Ev.step (fun k => by simp only [spec_WorstBox.l1]; rfl) ?_
        refine ev_pos (by omega) (ev_pos (by omega) ?_)
        rw [rd_l1 l i hlt]
        refine ev_pos (by omega) (Ev.bind (below_ev _ j hjt hxi) ?_)
        rw [rd_at _ j hjt, wsucc hjt (by omega)]
        unfold wrow
        rw [getD_at _ _ _ hjt]
        generalize cntLess l[i][j] (l[i].take j) 0 = c
        unfold upd
        by_cases h1 : c > s.2
        · rw [if_pos h1]
          exact ev_pos h1 (ev_pos (by omega) (ihe (j + 1) (l[i][j], c) (by omega)))
        rw [if_neg h1]
        by_cases h2 : c = s.2
        · rw [if_pos h2]
          by_cases h3 : c > 0
          · rw [if_pos h3]
            by_cases h4 : l[i][j] < s.1
            · rw [if_pos h4]
              exact ev_neg h1 (ev_pos h2 (ev_pos h3 (ev_pos (by omega) (ev_pos h4 (ihe (j + 1) (l[i][j], c) (by omega))))))
            · rw [if_neg h4]
              exact ev_neg h1 (ev_pos h2 (ev_pos h3 (ev_pos (by omega) (ev_neg h4 (ihe (j + 1) s (by omega))))))
          · rw [if_neg h3]
            exact ev_neg h1 (ev_pos h2 (ev_neg h3 (ihe (j + 1) s (by omega))))
        · rw [if_neg h2]
          exact ev_neg h1 (ev_neg h2 (ihe (j + 1) s (by omega)))
    unfold wtab
    exact inner l[i].length 0 s (by omega)
theorem worst_impl_l (l : List (List Int)) (hn : l.length ≤ 1048576) (hx : ∀ x, x ∈ l → x.length ≤ 1048576) : ∀ d i (s : Int × Int), i + d = l.length → Ev (fun k => impl_WorstBox.l0 k s.1 s.2 l (l.length : Int) (i : Int)) (wfin (wtab (l.drop i) s)) := by
  intro d
  induction d with
  | zero =>
    intro i s hi
    refine Ev.step (fun k => by simp only [impl_WorstBox.l0]; rfl) ?_
    refine ev_neg (by omega) (ev_const ?_)
    rw [List.drop_of_length_le (by omega)]; rfl
  | succ d ih =>
    intro i s hi
    have hlt : i < l.length := by omega
    have hxi := hx _ (List.getElem_mem hlt)
    refine Ev.step (fun k => by simp only [impl_WorstBox.l0]; rfl) ?_
    rw [rd_l1 l i hlt]
    refine ev_pos (by omega) (ev_pos (by omega) (ev_pos (by omega) ?_))
    rw [List.drop_eq_getElem_cons hlt]
    generalize hrow : l[i] = row at hxi
    have inner : ∀ e j (s : Int × Int), j + e = row.length → Ev (fun k => impl_WorstBox.l1 k s.1 s.2 row l (l.length : Int) (i : Int) row (row.length : Int) (j : Int)) (wfin (wtab (l.drop (i + 1)) (wrow row e j s))) := by
      intro e
      induction e with
      | zero =>
        intro j s hj
        refine Ev.step (fun k => by simp only [impl_WorstBox.l1]; rfl) ?_
        rw [wsucc hlt (by omega)]
        exact ev_neg (by omega) (ih (i + 1) s (by omega))
      | succ e ihe =>
        intro j s hj
        have hjt : j < row.length := by omega
        refine Ev.step (fun k => by simp only [impl_WorstBox.l1]; rfl) ?_
        rw [rd_at _ j hjt, Int.toNat_natCast]
        refine ev_pos (by omega) (ev_pos (by omega) (ev_pos (by omega) (ev_pos (by omega) ?_)))
        have htl : (row.take j).length = j := by rw [List.length_take]; omega
        have low : ∀ f m (c : Int), m + f = (row.take j).length → Ev (fun k => impl_WorstBox.l2 k s.1 s.2 row row[j] c l (l.length : Int) (i : Int) row (row.length : Int) (j : Int) (row.take j) ((row.take j).length : Int) (m : Int)) (wfin (wtab (l.drop (i + 1)) (wrow row e (j + 1) (upd s row[j] (cntLess row[j] ((row.take j).drop m) c))))) := by
          intro f
          induction f with
          | zero =>
            intro m c hm
            refine Ev.step (fun k => by simp only [impl_WorstBox.l2]; rfl) ?_
            rw [wsucc hjt (by omega), List.drop_of_length_le (show (row.take j).length ≤ m by omega)]
            refine ev_neg (by omega) ?_
            unfold cntLess upd
            by_cases h1 : c > s.2
            · rw [if_pos h1]
              exact ev_pos h1 (ihe (j + 1) (row[j], c) (by omega))
            rw [if_neg h1]
            by_cases h2 : c = s.2
            · rw [if_pos h2]
              by_cases h3 : c > 0
              · rw [if_pos h3]
                by_cases h4 : row[j] < s.1
                · rw [if_pos h4]
                  exact ev_neg h1 (ev_pos h2 (ev_pos h3 (ev_pos h4 (ihe (j + 1) (row[j], c) (by omega)))))
                · rw [if_neg h4]
                  exact ev_neg h1 (ev_pos h2 (ev_pos h3 (ev_neg h4 (ihe (j + 1) s (by omega)))))
              · rw [if_neg h3]
                exact ev_neg h1 (ev_pos h2 (ev_neg h3 (ihe (j + 1) s (by omega))))
            · rw [if_neg h2]
              exact ev_neg h1 (ev_neg h2 (ihe (j + 1) s (by omega)))
          | succ f ihf =>
            intro m c hm
            have hmt : m < (row.take j).length := by omega
            refine Ev.step (fun k => by simp only [impl_WorstBox.l2]; rfl) ?_
            rw [rd_at _ m hmt, wsucc hmt (by omega), List.drop_eq_getElem_cons hmt]
            refine ev_pos (by omega) (ev_pos (by omega) (ev_pos (by omega) ?_))
            unfold cntLess
            by_cases hc : (row.take j)[m] < row[j]
            · rw [if_pos hc]; exact ev_pos hc (ihf (m + 1) _ (by omega))
            · rw [if_neg hc]; exact ev_neg hc (ihf (m + 1) _ (by omega))
        unfold wrow
        rw [getD_at _ _ _ hjt]
        exact low (row.take j).length 0 0 (by omega)
    unfold wtab
    exact inner row.length 0 s (by omega)
end Go.Proofs.Ytmggkimmnekhcaa.UY
namespace Go.Proofs.Ytmggkimmnekhcaa.UY
open Go.RowKit Go.Proofs.YtmggkimmnekhcaaW.PrintWords Go.Proofs.YtmggkimmnekhcaaW.PrintMore Go.Proofs.Ytmggkimmnekhcaa.P Go.Proofs.Ytmggkimmnekhcaa.U Go.Proofs.Ytmggkimmnekhcaa.UT
set_option linter.unusedVariables false

/-! The earliest number of a stack. -/
def earl (l : List Int) : Int := l.foldl mn 100
theorem mnL_fold : ∀ (l : List Int) (m : Int), mnL l m = l.foldl mn m
  | [], m => rfl
  | x :: l, m => by rw [mnL, mnL_fold l]; rfl
theorem earl_l (l : List Int) (hn : l.length ≤ 1048576) : ∀ d i (m : Int), i + d = l.length → Ev (fun k => spec_l8Earliest.l0 k l m (i : Int)) ((l.drop i).foldl mn m) := by
  intro d
  induction d with
  | zero =>
    intro i m hi
    refine Ev.step (fun k => by simp only [spec_l8Earliest.l0]; rfl) ?_
    refine ev_neg (by omega) (ev_const ?_)
    rw [List.drop_of_length_le (by omega)]; rfl
  | succ d ih =>
    intro i m hi
    have hlt : i < l.length := by omega
    refine Ev.step (fun k => by simp only [spec_l8Earliest.l0]; rfl) ?_
    refine ev_pos (by omega) (ev_pos (by omega) ?_)
    rw [rd_at l i hlt, wsucc hlt (by omega), List.drop_eq_getElem_cons hlt]
    have e : spec_l1Least.f m l[i] = some (mn m l[i]) := by
      unfold spec_l1Least.f mn
      by_cases h : m < l[i]
      · rw [if_pos h, if_neg (by omega)]
      · rw [if_neg h]
        by_cases h2 : l[i] < m
        · rw [if_pos h2]
        · rw [if_neg h2, show l[i] = m by omega]
    exact ev_call e (ih (i + 1) _ (by omega))
theorem earl_spec (l : List Int) (hn : l.length ≤ 1048576) : Ev (fun k => spec_l8Earliest.f k l) (earl l) := by
  unfold spec_l8Earliest.f
  exact earl_l l hn l.length 0 100 (by omega)
theorem earl_impl (l : List Int) (hx : ∀ n, n ∈ l → n ≤ 99) : impl_earliestOf.f l = some (earl l) := by
  unfold impl_earliestOf.f earl
  cases l with
  | nil => rfl
  | cons x l =>
    have h := hx x (List.mem_cons_self ..)
    rw [if_neg (by simp; omega)]
    show (some (mnL l x)).bind _ = _
    rw [Option.bind_some, mnL_fold, List.foldl_cons, show mn 100 x = x from if_pos (by omega)]

/-- A yard whose stacks aren't too high and whose numbers aren't too great. -/
def fine (l : List (List Int)) : Prop := ∀ x, x ∈ l → x.length ≤ 4 ∧ ∀ n, n ∈ x → n ≤ 99
theorem fine_ok {l : List (List Int)} (h : okYard l = true) : fine l := fun x hx => ⟨((okYard_mem h).2 x hx).1, fun n hn => (((okYard_mem h).2 x hx).2 n hn).2⟩
theorem earl_at {l : List (List Int)} (h : fine l) {s : Int} (h0 : 0 ≤ s) (h1 : s < (l.length : Int)) : impl_earliestOf.f (rd_L2 l s) = some (earl (rd_L2 l s)) ∧ Ev (fun k => spec_l8Earliest.f k (rd_L2 l s)) (earl (rd_L2 l s)) := by
  obtain ⟨h2, h3⟩ := h _ (rdl_mem h0 h1)
  exact ⟨earl_impl _ h3, earl_spec _ (by omega)⟩
end Go.Proofs.Ytmggkimmnekhcaa.UY
namespace Go.Proofs.Ytmggkimmnekhcaa.UY
open Go.RowKit Go.Proofs.YtmggkimmnekhcaaW.PrintWords Go.Proofs.YtmggkimmnekhcaaW.PrintMore Go.Proofs.Ytmggkimmnekhcaa.P Go.Proofs.Ytmggkimmnekhcaa.U Go.Proofs.Ytmggkimmnekhcaa.UT
set_option linter.unusedVariables false

def hasS (l : List (List Int)) (s : Int) : Bool := okYard l && inr s 0 ((l.length : Int) - 1)
theorem stacks_one (l : List (List Int)) (s : Int) : okStacks l [s] = hasS l s := by
  unfold okStacks hasS
  simp
theorem stack_impl (l : List (List Int)) (s : Int) : impl_hasStack.f l [s] = some (hasS l s) := by
  unfold impl_hasStack.f
  rw [stacks_one]
theorem hasS_in {l : List (List Int)} {s : Int} (h : hasS l s = true) : okYard l = true ∧ 0 ≤ s ∧ s < (l.length : Int) := by
  unfold hasS at h
  rw [Bool.and_eq_true, inr_iff] at h
  exact ⟨h.1, by omega, by omega⟩
end Go.Proofs.Ytmggkimmnekhcaa.UY
namespace Go.Proofs.Ytmggkimmnekhcaa.UY
open Go.RowKit Go.Proofs.YtmggkimmnekhcaaW.PrintWords Go.Proofs.YtmggkimmnekhcaaW.PrintMore Go.Proofs.Ytmggkimmnekhcaa.P Go.Proofs.Ytmggkimmnekhcaa.U Go.Proofs.Ytmggkimmnekhcaa.UT
set_option linter.unusedVariables false

/-! The choice. -/
def upF (l : List (List Int)) (n : Int) (b : Int) (i : Nat) : Int := if ((rd_L2 l i).length : Int) < 4 ∧ earl (rd_L2 l i) > n ∧ (b < 0 ∨ earl (rd_L2 l i) < earl (rd_L2 l b)) then i else b
def upL (l : List (List Int)) (b : Int) (i : Nat) : Int := if ((rd_L2 l i).length : Int) < 4 ∧ (b < 0 ∨ earl (rd_L2 l i) > earl (rd_L2 l b)) then i else b
def chF (l : List (List Int)) (n : Int) : Nat → Nat → Int → Int
  | 0, _, b => b
  | d + 1, i, b => chF l n d (i + 1) (upF l n b i)
def chL (l : List (List Int)) : Nat → Nat → Int → Int
  | 0, _, b => b
  | d + 1, i, b => chL l d (i + 1) (upL l b i)
def chose (l : List (List Int)) (n : Int) : Int := if chF l n l.length 0 (-1) ≥ 0 then chF l n l.length 0 (-1) else chL l l.length 0 (-1)
theorem upF_lt {l : List (List Int)} {n b : Int} {i : Nat} (hi : i < l.length) (hb : b < (l.length : Int)) : upF l n b i < (l.length : Int) := by
  unfold upF; split <;> omega
theorem upL_lt {l : List (List Int)} {b : Int} {i : Nat} (hi : i < l.length) (hb : b < (l.length : Int)) : upL l b i < (l.length : Int) := by
  unfold upL; split <;> omega
theorem chL_lt {l : List (List Int)} : ∀ d i (b : Int), i + d = l.length → b < (l.length : Int) → chL l d i b < (l.length : Int)
  | 0, _, _, _, hb => hb
  | d + 1, i, b, hi, hb => chL_lt d (i + 1) _ (by omega) (upL_lt (by omega) hb)

theorem choose_impl1 {l : List (List Int)} (h : fine l) (hn : l.length ≤ 1048576) : ∀ d i (b : Int), i + d = l.length → b < (l.length : Int) →
    Ev (fun k => impl_chooseStack.l1 k b l (l.length : Int) (i : Int) l) (chL l d i b) := by
  intro d
  induction d with
  | zero =>
    intro i b hi hb
    refine Ev.step (fun k => by simp only [impl_chooseStack.l1]; rfl) ?_
    exact ev_neg (by omega) (ev_const rfl)
  | succ d ih =>
    intro i b hi hb
    have hlt : i < l.length := by omega
    refine Ev.step (fun k => by simp only [impl_chooseStack.l1]; rfl) ?_
    refine ev_pos (by omega) (ev_pos (by omega) (ev_pos (by omega) ?_))
    rw [wsucc hlt (by omega)]
    have ei := earl_at h (s := (i : Int)) (by omega) (by omega)
    have hi2 := fun b hb => ih (i + 1) b (by omega) hb
    unfold chL
    have hu := hi2 (upL l b i) (upL_lt hlt hb)
    by_cases h1 : ((rd_L2 l i).length : Int) < 4
    · refine ev_pos h1 ?_
      by_cases h2 : b < 0
      · refine ev_pos h2 ?_
        rw [show upL l b i = (i : Int) from if_pos ⟨h1, Or.inl h2⟩] at hu ⊢
        exact hu
      · refine ev_neg h2 (ev_call ei.1 (ev_pos (by omega) (ev_pos (by omega) (ev_call (earl_at h (s := b) (by omega) (by omega)).1 ?_))))
        by_cases h3 : earl (rd_L2 l i) > earl (rd_L2 l b)
        · rw [show upL l b i = (i : Int) from if_pos ⟨h1, Or.inr h3⟩] at hu ⊢
          exact ev_pos h3 hu
        · rw [show upL l b i = b from if_neg (fun hh => hh.2.elim h2 h3)] at hu ⊢
          exact ev_neg h3 hu
    · rw [show upL l b i = b from if_neg (fun hh => h1 hh.1)] at hu ⊢
      exact ev_neg h1 hu
theorem choose_impl0 {l : List (List Int)} (h : fine l) (hn : l.length ≤ 1048576) (n : Int) : ∀ d i (b : Int), i + d = l.length → b < (l.length : Int) →
    Ev (fun k => impl_chooseStack.l0 k n b l (l.length : Int) (i : Int) l) (if chF l n d i b ≥ 0 then chF l n d i b else chL l l.length 0 (chF l n d i b)) := by
  intro d
  induction d with
  | zero =>
    intro i b hi hb
    refine Ev.step (fun k => by simp only [impl_chooseStack.l0]; rfl) ?_
    refine ev_neg (by omega) ?_
    unfold chF
    by_cases h1 : b ≥ 0
    · rw [if_pos h1]; exact ev_pos h1 (ev_const rfl)
    · rw [if_neg h1]; exact ev_neg h1 (choose_impl1 h hn l.length 0 b (by omega) hb)
  | succ d ih =>
    intro i b hi hb
    have hlt : i < l.length := by omega
    refine Ev.step (fun k => by simp only [impl_chooseStack.l0]; rfl) ?_
    refine ev_pos (by omega) (ev_pos (by omega) (ev_pos (by omega) ?_))
    rw [wsucc hlt (by omega)]
    have ei := earl_at h (s := (i : Int)) (by omega) (by omega)
    unfold chF
    have hu := ih (i + 1) (upF l n b i) (by omega) (upF_lt hlt hb)
    refine ev_call ei.1 ?_
    by_cases h1 : ((rd_L2 l i).length : Int) < 4
    · refine ev_pos h1 ?_
      by_cases h4 : earl (rd_L2 l i) > n
      · refine ev_pos h4 ?_
        by_cases h2 : b < 0
        · refine ev_pos h2 ?_
          rw [show upF l n b i = (i : Int) from if_pos ⟨h1, h4, Or.inl h2⟩] at hu ⊢
          exact hu
        · refine ev_neg h2 (ev_pos (by omega) (ev_pos (by omega) (ev_call (earl_at h (s := b) (by omega) (by omega)).1 ?_)))
          by_cases h3 : earl (rd_L2 l i) < earl (rd_L2 l b)
          · rw [show upF l n b i = (i : Int) from if_pos ⟨h1, h4, Or.inr h3⟩] at hu ⊢
            exact ev_pos h3 hu
          · rw [show upF l n b i = b from if_neg (fun hh => hh.2.2.elim h2 h3)] at hu ⊢
            exact ev_neg h3 hu
      · rw [show upF l n b i = b from if_neg (fun hh => h4 hh.2.1)] at hu ⊢
        exact ev_neg h4 hu
    · rw [show upF l n b i = b from if_neg (fun hh => h1 hh.1)] at hu ⊢
      exact ev_neg h1 hu
theorem chL_neg (l : List (List Int)) : ∀ d i (b c : Int), b < 0 → c < 0 → chL l d i b = chL l d i c ∨ (chL l d i b < 0 ∧ chL l d i c < 0)
  | 0, _, _, _, hb, hc => Or.inr ⟨hb, hc⟩
  | d + 1, i, b, c, hb, hc => by
    unfold chL
    by_cases h : ((rd_L2 l i).length : Int) < 4
    · rw [show upL l b i = (i : Int) from if_pos ⟨h, Or.inl hb⟩, show upL l c i = (i : Int) from if_pos ⟨h, Or.inl hc⟩]
      exact Or.inl rfl
    · rw [show upL l b i = b from if_neg (fun hh => h hh.1), show upL l c i = c from if_neg (fun hh => h hh.1)]
      exact chL_neg l d (i + 1) b c hb hc
theorem upF_m1 {l : List (List Int)} {n b : Int} {i : Nat} (hb : b = -1 ∨ 0 ≤ b) : upF l n b i = -1 ∨ 0 ≤ upF l n b i := by
  unfold upF; split
  · exact Or.inr (by omega)
  · exact hb
theorem chF_m1 (l : List (List Int)) (n : Int) : ∀ d i (b : Int), (b = -1 ∨ 0 ≤ b) → chF l n d i b = -1 ∨ 0 ≤ chF l n d i b
  | 0, _, _, hb => hb
  | d + 1, i, b, hb => chF_m1 l n d (i + 1) _ (upF_m1 hb)
theorem choose_impl {l : List (List Int)} (h : fine l) (hn : l.length ≤ 1048576) (n : Int) : Ev (fun k => impl_chooseStack.f k l n) (chose l n) := by
  unfold impl_chooseStack.f chose
  have h1 := choose_impl0 h hn n l.length 0 (-1) (by omega) (by omega)
  rcases chF_m1 l n l.length 0 (-1) (Or.inl rfl) with h2 | h2
  · rw [h2] at h1 ⊢; exact h1
  · rw [if_pos h2] at h1 ⊢; exact h1
theorem choose_spec0 {l : List (List Int)} (h : fine l) (hn : l.length ≤ 1048576) (n : Int) : ∀ d i (b c : Int), i + d = l.length → b < (l.length : Int) → c < (l.length : Int) →
    Ev (fun k => spec_l8Choose.l0 k n b c (i : Int) l) (if chF l n d i b ≥ 0 then chF l n d i b else chL l d i c) := by
  intro d
  induction d with
  | zero =>
    intro i b c hi hb hc
    refine Ev.step (fun k => by simp only [spec_l8Choose.l0]; rfl) ?_
    refine ev_neg (by omega) ?_
    unfold chF chL
    by_cases h1 : b ≥ 0
    · exact ev_eq (ev_pos h1 (ev_const rfl)) (if_pos h1).symm
    · exact ev_eq (ev_neg h1 (ev_const rfl)) (if_neg h1).symm
  | succ d ih =>
    intro i b c hi hb hc
    have hlt : i < l.length := by omega
    refine Ev.step (fun k => by simp only [spec_l8Choose.l0]; rfl) ?_
    refine ev_pos (by omega) (ev_pos (by omega) ?_)
    rw [wsucc hlt (by omega)]
    have ei := earl_at h (s := (i : Int)) (by omega) (by omega)
    unfold chF chL
    have hu := ih (i + 1) (upF l n b i) (upL l c i) (by omega) (upF_lt hlt hb) (upL_lt hlt hc)
    have h5 := (h _ (rdl_mem (s := (i : Int)) (by omega) (by omega))).1
    by_cases h1 : ((rd_L2 l i).length : Int) < 4
    · refine ev_neg (by omega) (Ev.bind ei.2 ?_)
      -- behind the first test: the second
      have tail : ∀ (t : Bool) (b' : Int), (t = true → b' = (i : Int)) → (t = false → b' = b) → upF l n b i = b' → Ev (fun k => spec_l8Choose.j1 k n b c (i : Int) (earl (rd_L2 l i)) t l) (if chF l n d (i + 1) (upF l n b i) ≥ 0 then chF l n d (i + 1) (upF l n b i) else chL l d (i + 1) (upL l c i)) := by
        intro t b' ht hf hb'
        refine Ev.step (fun k => by simp only [spec_l8Choose.j1]; rfl) ?_
        rw [hb'] at hu ⊢
        rw [wsucc hlt (by omega)]
        cases t
        · rw [hf rfl] at hu ⊢
          refine ev_neg (by simp) ?_
          by_cases h2 : c < 0
          · rw [show upL l c i = (i : Int) from if_pos ⟨h1, Or.inl h2⟩] at hu ⊢
            exact ev_pos h2 hu
          · refine ev_neg h2 (ev_pos (by omega) (ev_pos (by omega) (Ev.bind (earl_at h (s := c) (by omega) (by omega)).2 ?_)))
            by_cases h3 : earl (rd_L2 l i) > earl (rd_L2 l c)
            · rw [show upL l c i = (i : Int) from if_pos ⟨h1, Or.inr h3⟩] at hu ⊢
              exact ev_pos h3 hu
            · rw [show upL l c i = c from if_neg (fun hh => hh.2.elim h2 h3)] at hu ⊢
              exact ev_neg h3 hu
        · rw [ht rfl] at hu ⊢
          refine ev_pos rfl ?_
          by_cases h2 : c < 0
          · rw [show upL l c i = (i : Int) from if_pos ⟨h1, Or.inl h2⟩] at hu ⊢
            exact ev_pos h2 hu
          · refine ev_neg h2 (ev_pos (by omega) (ev_pos (by omega) (Ev.bind (earl_at h (s := c) (by omega) (by omega)).2 ?_)))
            by_cases h3 : earl (rd_L2 l i) > earl (rd_L2 l c)
            · rw [show upL l c i = (i : Int) from if_pos ⟨h1, Or.inr h3⟩] at hu ⊢
              exact ev_pos h3 hu
            · rw [show upL l c i = c from if_neg (fun hh => hh.2.elim h2 h3)] at hu ⊢
              exact ev_neg h3 hu
      by_cases h4 : earl (rd_L2 l i) > n
      · refine ev_pos h4 ?_
        by_cases h2 : b < 0
        · exact ev_pos h2 (tail true i (fun _ => rfl) (fun h => by cases h) (if_pos ⟨h1, h4, Or.inl h2⟩))
        · refine ev_neg h2 (ev_pos (by omega) (ev_pos (by omega) (Ev.bind (earl_at h (s := b) (by omega) (by omega)).2 ?_)))
          by_cases h3 : earl (rd_L2 l i) < earl (rd_L2 l b)
          · exact tail _ i (fun _ => rfl) (fun h => by rw [decide_eq_true h3] at h; cases h) (if_pos ⟨h1, h4, Or.inr h3⟩)
          · exact tail _ b (fun h => absurd (of_decide_eq_true h) h3) (fun _ => rfl) (if_neg (fun hh => hh.2.2.elim h2 h3))
      · exact ev_neg h4 (tail false b (fun h => by cases h) (fun _ => rfl) (if_neg (fun hh => h4 hh.2.1)))
    · rw [show upF l n b i = b from if_neg (fun hh => h1 hh.1), show upL l c i = c from if_neg (fun hh => h1 hh.1)] at hu ⊢
      exact ev_pos (by omega) hu
theorem choose_spec {l : List (List Int)} (h : fine l) (hn : l.length ≤ 1048576) (n : Int) : Ev (fun k => spec_l8Choose.f k l n) (chose l n) := by
  unfold spec_l8Choose.f chose
  exact choose_spec0 h hn n l.length 0 (-1) (-1) (by omega) (by omega) (by omega)
end Go.Proofs.Ytmggkimmnekhcaa.UY
namespace Go.Proofs.Ytmggkimmnekhcaa.UY
open Go.RowKit Go.Proofs.YtmggkimmnekhcaaW.PrintWords Go.Proofs.YtmggkimmnekhcaaW.PrintMore Go.Proofs.Ytmggkimmnekhcaa.P Go.Proofs.Ytmggkimmnekhcaa.U Go.Proofs.Ytmggkimmnekhcaa.UT
set_option linter.unusedVariables false

def room (l : List (List Int)) (b : Int) : Prop := b < 0 ∨ (b < (l.length : Int) ∧ (rd_L2 l b).length < 4)
theorem upF_room {l : List (List Int)} {n b : Int} {i : Nat} (hi : i < l.length) (hb : room l b) : room l (upF l n b i) := by
  unfold upF
  split
  · rename_i h; exact Or.inr ⟨by omega, by omega⟩
  · exact hb
theorem upL_room {l : List (List Int)} {b : Int} {i : Nat} (hi : i < l.length) (hb : room l b) : room l (upL l b i) := by
  unfold upL
  split
  · rename_i h; exact Or.inr ⟨by omega, by omega⟩
  · exact hb
theorem chF_room {l : List (List Int)} (n : Int) : ∀ d i (b : Int), i + d = l.length → room l b → room l (chF l n d i b)
  | 0, _, _, _, hb => hb
  | d + 1, i, b, hi, hb => chF_room n d (i + 1) _ (by omega) (upF_room (by omega) hb)
theorem chL_room {l : List (List Int)} : ∀ d i (b : Int), i + d = l.length → room l b → room l (chL l d i b)
  | 0, _, _, _, hb => hb
  | d + 1, i, b, hi, hb => chL_room d (i + 1) _ (by omega) (upL_room (by omega) hb)
theorem chose_room (l : List (List Int)) (n : Int) : room l (chose l n) := by
  unfold chose
  split
  · exact chF_room n l.length 0 (-1) (by omega) (Or.inl (by omega))
  · exact chL_room l.length 0 (-1) (by omega) (Or.inl (by omega))
end Go.Proofs.Ytmggkimmnekhcaa.UY
namespace Go.Proofs.Ytmggkimmnekhcaa.UY
open Go.RowKit Go.Proofs.YtmggkimmnekhcaaW.PrintWords Go.Proofs.YtmggkimmnekhcaaW.PrintMore Go.Proofs.Ytmggkimmnekhcaa.P Go.Proofs.Ytmggkimmnekhcaa.U Go.Proofs.Ytmggkimmnekhcaa.UT Go.Proofs.Ytmggkimmnekhcaa.US Go.Proofs.Ytmggkimmnekhcaa.UD
set_option linter.unusedVariables false
/-! The yards that are drawn. -/
def YB (l : List (List Int)) : Prop := (1 ≤ l.length ∧ l.length ≤ 4) ∧ ∀ x, x ∈ l → x.length ≤ 4
theorem YB.own {l : List (List Int)} (h : YB l) : Ev (fun k => spec_l5Own.f k l) l := own_spec l (by have := h.1; omega) (fun x hx => by have := h.2 x hx; omega)
theorem YB.set {l : List (List Int)} (h : YB l) (t : Nat) (r : List Int) (hr : r.length ≤ 4) : YB (l.set t r) := by
  refine ⟨by rw [List.length_set]; exact h.1, fun x hx => ?_⟩
  rcases List.mem_or_eq_of_mem_set hx with hx | rfl
  · exact h.2 x hx
  · exact hr
theorem getD_four {l : List (List Int)} (h : ∀ x, x ∈ l → x.length ≤ 4) (t : Nat) : (l.getD t []).length ≤ 4 := by
  by_cases ht : t < l.length
  · rw [getD_at _ _ _ ht]; exact h _ (List.getElem_mem ht)
  · rw [show l.getD t [] = [] by simp [List.getD, List.getElem?_eq_none (by omega : l.length ≤ t)]]; simp
theorem move_ev {l : List (List Int)} (h : YB l) {a b : Nat} (ha : a < l.length) (hb : b < l.length) (h0 : 0 < (l.getD a []).length) (h4 : (l.getD b []).length < 4) (hab : a ≠ b) : ∃ l', Ev (fun k => spec_l5Move.f k l (a : Int) (b : Int)) l' ∧ YB l' := by
  refine ⟨l5Mv l a b, ?_, ?_⟩
  · unfold spec_l5Move.f
    refine Ev.bind h.own (ev_const ?_)
    unfold spec_l5Move.g
    rw [if_pos ⟨by omega, by omega, by omega, by omega, by rw [Int.toNat_natCast]; exact h0, fun x hx => by have := h.2 x hx; omega⟩, Int.toNat_natCast, Int.toNat_natCast]
  · unfold l5Mv
    have hc : YB (l5Cut l a) := by
      unfold l5Cut
      exact h.set a _ (by rw [List.length_take]; have := getD_four h.2 a; omega)
    refine hc.set b _ ?_
    have e : (l5Cut l a).getD b [] = l.getD b [] := by
      unfold l5Cut
      have hb2 : b < (l.set a ((l.getD a []).take ((l.getD a []).length - 1))).length := by rw [List.length_set]; exact hb
      rw [getD_at _ _ _ hb2, getD_at _ _ _ hb, List.getElem_set, if_neg hab]
    rw [e, List.length_append, List.length_singleton]; omega
theorem yard_l2 {c : List Int} (hc : codeOk c) : ∀ (m : Nat) (i s : Int) (l : List (List Int)), YB l → 0 ≤ i → i + 4 * m ≤ 900000000 → ∃ (l' : List (List Int)) (j s' : Int), Ev (fun k => spec_l1Cur_yard.l2 k (m : Int) c i s l) (l', j, s') ∧ YB l' ∧ i ≤ j ∧ j ≤ i + 4 * m
  | 0, i, s, l, h, h0, h1 => by
    refine ⟨l, i, s, ?_, h, by omega, by omega⟩
    refine Ev.step (fun k => by simp only [spec_l1Cur_yard.l2]; rfl) ?_
    exact ev_neg (by omega) (Ev.bind h.own (ev_const rfl))
  | m + 1, i, s, l, h, h0, h1 => by
    obtain ⟨a, i1, s1, e1, a0, a1, g1⟩ := pick_ev hc (s := s) (n := (l.length : Int)) (i := i) (by omega)
    obtain ⟨b, i2, s2, e2, b0, b1, g2⟩ := pick_ev hc (s := s1) (n := (l.length : Int)) (i := i1) (by omega)
    have hl := h.1
    obtain ⟨a, rfl⟩ := Int.eq_ofNat_of_zero_le a0
    obtain ⟨b, rfl⟩ := Int.eq_ofNat_of_zero_le b0
    have hw : wrap64 ((((m + 1 : Nat) : Int)) - 1) = (m : Int) := by rw [wr (by omega) (by omega)]; omega
    have ea : rd_L2 l (a : Int) = l.getD a [] := by unfold rd_L2; rw [Int.toNat_natCast]
    have eb : rd_L2 l (b : Int) = l.getD b [] := by unfold rd_L2; rw [Int.toNat_natCast]
    by_cases hab : (a : Int) = (b : Int)
    · obtain ⟨l', j, s', g3, g4, g5, g6⟩ := yard_l2 hc m i2 s2 l h (by omega) (by omega)
      refine ⟨l', j, s', ?_, g4, by omega, by omega⟩
      refine Ev.step (fun k => by simp only [spec_l1Cur_yard.l2]; rfl) ?_
      refine ev_pos (by omega) (ev_call e1 (ev_call e2 (ev_pos hab ?_)))
      rw [hw]; exact g3
    by_cases ha : (((l.getD a []).length : Int) > 0)
    · by_cases hb : (((l.getD b []).length : Int) < 4)
      · obtain ⟨l1, m1, m2⟩ := move_ev h (a := a) (b := b) (by omega) (by omega) (by omega) (by omega) (by omega)
        obtain ⟨l', j, s', g3, g4, g5, g6⟩ := yard_l2 hc m i2 s2 l1 m2 (by omega) (by omega)
        refine ⟨l', j, s', ?_, g4, by omega, by omega⟩
        refine Ev.step (fun k => by simp only [spec_l1Cur_yard.l2]; rfl) ?_
        refine ev_pos (by omega) (ev_call e1 (ev_call e2 (ev_neg hab (ev_pos (by omega) (ev_pos (by (try dsimp only); omega) ?_)))))
        try dsimp only
        rw [ea, eb, hw]
        exact ev_pos ha (ev_pos (by omega) (ev_pos (by omega) (ev_pos hb (Ev.bind m1 g3))))
      · obtain ⟨l', j, s', g3, g4, g5, g6⟩ := yard_l2 hc m i2 s2 l h (by omega) (by omega)
        refine ⟨l', j, s', ?_, g4, by omega, by omega⟩
        refine Ev.step (fun k => by simp only [spec_l1Cur_yard.l2]; rfl) ?_
        refine ev_pos (by omega) (ev_call e1 (ev_call e2 (ev_neg hab (ev_pos (by omega) (ev_pos (by (try dsimp only); omega) ?_)))))
        try dsimp only
        rw [ea, eb, hw]
        exact ev_pos ha (ev_pos (by omega) (ev_pos (by omega) (ev_neg hb g3)))
    · obtain ⟨l', j, s', g3, g4, g5, g6⟩ := yard_l2 hc m i2 s2 l h (by omega) (by omega)
      refine ⟨l', j, s', ?_, g4, by omega, by omega⟩
      refine Ev.step (fun k => by simp only [spec_l1Cur_yard.l2]; rfl) ?_
      refine ev_pos (by omega) (ev_call e1 (ev_call e2 (ev_neg hab (ev_pos (by omega) (ev_pos (by (try dsimp only); omega) ?_)))))
      try dsimp only
      rw [ea, hw]
      exact ev_neg ha g3
theorem yard_l1 {c : List Int} (hc : codeOk c) : ∀ (m : Nat) (i s : Int) (l : List (List Int)), YB l → 0 ≤ i → i + 2 * m ≤ 800000000 → ∃ (l' : List (List Int)) (j s' : Int), Ev (fun k => spec_l1Cur_yard.l1 k (m : Int) c i s l) (l', j, s') ∧ YB l' ∧ i ≤ j ∧ j ≤ i + 2 * m + 100
  | 0, i, s, l, h, h0, h1 => by
    obtain ⟨a, i1, s1, e1, a0, a1, g1⟩ := pick_ev hc (s := s) (n := 4) (i := i) (by omega)
    obtain ⟨a, rfl⟩ := Int.eq_ofNat_of_zero_le a0
    obtain ⟨l', j, s', g3, g4, g5, g6⟩ := yard_l2 hc a i1 s1 l h (by omega) (by omega)
    refine ⟨l', j, s', ?_, g4, by omega, by omega⟩
    refine Ev.step (fun k => by simp only [spec_l1Cur_yard.l1]; rfl) ?_
    exact ev_neg (by omega) (ev_call e1 g3)
  | m + 1, i, s, l, h, h0, h1 => by
    obtain ⟨a, i1, s1, e1, a0, a1, g1⟩ := pick_ev hc (s := s) (n := (l.length : Int)) (i := i) (by omega)
    have hl := h.1
    obtain ⟨a, rfl⟩ := Int.eq_ofNat_of_zero_le a0
    have hw : wrap64 ((((m + 1 : Nat) : Int)) - 1) = (m : Int) := by
      by_cases hm : ((m + 1 : Nat) : Int) ≤ 9223372036854775807
      · rw [wr (by omega) (by omega)]; omega
      · omega
    have ea : rd_L2 l (a : Int) = l.getD a [] := by unfold rd_L2; rw [Int.toNat_natCast]
    by_cases ha : (((l.getD a []).length : Int) < 4)
    · obtain ⟨l', j, s', g3, g4, g5, g6⟩ := yard_l1 hc m i1 s1 (l.set a (l.getD a [] ++ [((m + 1 : Nat) : Int)])) (h.set a _ (by rw [List.length_append, List.length_singleton]; omega)) (by omega) (by omega)
      refine ⟨l', j, s', ?_, g4, by omega, by omega⟩
      refine Ev.step (fun k => by simp only [spec_l1Cur_yard.l1]; rfl) ?_
      refine ev_pos (by omega) (ev_call e1 (ev_pos (by omega) (ev_pos (by (try dsimp only); omega) ?_)))
      try dsimp only
      rw [ea, hw]
      refine ev_pos ha (ev_pos (by omega) ?_)
      rw [Int.toNat_natCast]
      exact g3
    · obtain ⟨l', j, s', g3, g4, g5, g6⟩ := yard_l1 hc m i1 s1 l h (by omega) (by omega)
      refine ⟨l', j, s', ?_, g4, by omega, by omega⟩
      refine Ev.step (fun k => by simp only [spec_l1Cur_yard.l1]; rfl) ?_
      refine ev_pos (by omega) (ev_call e1 (ev_pos (by omega) (ev_pos (by (try dsimp only); omega) ?_)))
      try dsimp only
      rw [ea, hw]
      exact ev_neg ha g3
theorem yard_l0 {c : List Int} (hc : codeOk c) : ∀ (m : Nat) (i s : Int) (l : List (List Int)), l.length + m ≤ 4 → 1 ≤ l.length + m → (∀ x, x ∈ l → x.length ≤ 4) → 0 ≤ i → i ≤ 700000000 → ∃ (l' : List (List Int)) (j s' : Int), Ev (fun k => spec_l1Cur_yard.l0 k (m : Int) c i s l) (l', j, s') ∧ YB l' ∧ i ≤ j ∧ j ≤ i + 1000
  | 0, i, s, l, h1, h2, h3, h4, h5 => by
    obtain ⟨a, i1, s1, e1, a0, a1, g1⟩ := pick_ev hc (s := s) (n := 8) (i := i) (by omega)
    obtain ⟨a, rfl⟩ := Int.eq_ofNat_of_zero_le a0
    obtain ⟨l', j, s', g3, g4, g5, g6⟩ := yard_l1 hc (1 + a) i1 s1 l ⟨by omega, h3⟩ (by omega) (by omega)
    refine ⟨l', j, s', ?_, g4, by omega, by omega⟩
    refine Ev.step (fun k => by simp only [spec_l1Cur_yard.l0]; rfl) ?_
    refine ev_neg (by omega) (ev_call e1 ?_)
    try dsimp only
    rw [show wrap64 (1 + (a : Int)) = ((1 + a : Nat) : Int) by rw [wr (by omega) (by omega)]; omega]
    exact g3
  | m + 1, i, s, l, h1, h2, h3, h4, h5 => by
    obtain ⟨l', j, s', g3, g4, g5, g6⟩ := yard_l0 hc m i s (l ++ [[]]) (by rw [List.length_append, List.length_singleton]; omega) (by rw [List.length_append, List.length_singleton]; omega) (fun x hx => by
      rcases List.mem_append.mp hx with hx | hx
      · exact h3 x hx
      · rw [List.mem_singleton.mp hx]; simp) h4 h5
    refine ⟨l', j, s', ?_, g4, g5, g6⟩
    refine Ev.step (fun k => by simp only [spec_l1Cur_yard.l0]; rfl) ?_
    refine ev_pos (by omega) (ev_pos (by omega) ?_)
    rw [show wrap64 ((((m + 1 : Nat) : Int)) - 1) = (m : Int) by rw [wr (by omega) (by omega)]; omega]
    exact g3
theorem yard_ev {c : List Int} (hc : codeOk c) {i s : Int} (hi : 0 ≤ i ∧ i ≤ 600000000) : ∃ (l : List (List Int)) (j s' : Int), Ev (fun k => spec_l1Cur_yard.f k c i s) (l, j, s') ∧ YB l ∧ i ≤ j ∧ j ≤ i + 2000 := by
  unfold spec_l1Cur_yard.f
  obtain ⟨a, i1, s1, e1, a0, a1, g1⟩ := pick_ev hc (s := s) (n := 4) (i := i) (by omega)
  obtain ⟨a, rfl⟩ := Int.eq_ofNat_of_zero_le a0
  obtain ⟨l', j, s', g3, g4, g5, g6⟩ := yard_l0 hc (1 + a) i1 s1 [] (by rw [List.length_nil]; omega) (by rw [List.length_nil]; omega) (fun x hx => by cases hx) (by omega) (by omega)
  refine ⟨l', j, s', ev_call e1 ?_, g4, by omega, by omega⟩
  try dsimp only
  rw [show wrap64 (1 + (a : Int)) = ((1 + a : Nat) : Int) by rw [wr (by omega) (by omega)]; omega]
  exact g3
def AB (l : List (List Int)) : Prop := l.length ≤ 20 ∧ ∀ x, x ∈ l → x.length ≤ 20
theorem any_l0 {c : List Int} (hc : codeOk c) : ∀ (m n : Nat) (i s : Int) (l : List (List Int)), n + m = 8 → l.length ≤ 4 + n → (∀ x, x ∈ l → x.length ≤ 20) → 0 ≤ i → i + 2 * m ≤ 900000000 → ∃ (l' : List (List Int)) (j s' : Int), Ev (fun k => spec_l1Cur_anyYard.l0 k (n : Int) c i s l) (l', j, s') ∧ AB l' ∧ i ≤ j ∧ j ≤ i + 2 * m + 2
  | 0, n, i, s, l, hn, h1, h2, h3, h4 => by
    obtain ⟨a, i1, s1, e1, a0, a1, g1⟩ := pick_ev hc (s := s) (n := 2) (i := i) (by omega)
    by_cases h5 : (l.length : Int) < wrap64 (6 + a)
    · refine ⟨l, i1, s1, ?_, ⟨by omega, h2⟩, by omega, by omega⟩
      refine Ev.step (fun k => by simp only [spec_l1Cur_anyYard.l0]; rfl) ?_
      exact ev_call e1 (ev_pos h5 (ev_neg (by omega) (ev_const rfl)))
    · refine ⟨l, i1, s1, ?_, ⟨by omega, h2⟩, by omega, by omega⟩
      refine Ev.step (fun k => by simp only [spec_l1Cur_anyYard.l0]; rfl) ?_
      exact ev_call e1 (ev_neg h5 (ev_const rfl))
  | m + 1, n, i, s, l, hn, h1, h2, h3, h4 => by
    obtain ⟨a, i1, s1, e1, a0, a1, g1⟩ := pick_ev hc (s := s) (n := 2) (i := i) (by omega)
    by_cases h5 : (l.length : Int) < wrap64 (6 + a)
    · obtain ⟨l', j, s', g3, g4, g5, g6⟩ := any_l0 hc m (n + 1) i1 s1 (l ++ [[wrap64 (40 + (n : Int))]]) (by omega) (by rw [List.length_append, List.length_singleton]; omega) (fun x hx => by
        rcases List.mem_append.mp hx with hx | hx
        · exact h2 x hx
        · rw [List.mem_singleton.mp hx]; simp) (by omega) (by omega)
      refine ⟨l', j, s', ?_, g4, by omega, by omega⟩
      refine Ev.step (fun k => by simp only [spec_l1Cur_anyYard.l0]; rfl) ?_
      refine ev_call e1 (ev_pos h5 (ev_pos (by omega) (ev_pos (by omega) ?_)))
      rw [wsucc (n := 8) (by omega) (by omega)]
      exact g3
    · refine ⟨l, i1, s1, ?_, ⟨by omega, h2⟩, by omega, by omega⟩
      refine Ev.step (fun k => by simp only [spec_l1Cur_anyYard.l0]; rfl) ?_
      exact ev_call e1 (ev_neg h5 (ev_const rfl))
theorem any_ev {c : List Int} (hc : codeOk c) {i s : Int} (hi : 0 ≤ i ∧ i ≤ 500000000) : ∃ (l : List (List Int)) (j s' : Int), Ev (fun k => spec_l1Cur_anyYard.f k c i s) (l, j, s') ∧ AB l ∧ i ≤ j ∧ j ≤ i + 3000 := by
  unfold spec_l1Cur_anyYard.f
  obtain ⟨y, i1, s1, e1, hy, g1⟩ := yard_ev hc (i := i) (s := s) (by omega)
  obtain ⟨a, i2, s2, e2, a0, a1, g2⟩ := pick_ev hc (s := s1) (n := (y.length : Int)) (i := i1) (by omega)
  obtain ⟨z, i3, s3, e3, z0, z1, g3⟩ := pick_ev hc (s := s2) (n := 24) (i := i2) (by omega)
  obtain ⟨a, rfl⟩ := Int.eq_ofNat_of_zero_le a0
  have hl := hy.1
  have hAB : AB y := ⟨by omega, fun x hx => by have := hy.2 x hx; omega⟩
  have ea : rd_L2 y (a : Int) = y.getD a [] := by unfold rd_L2; rw [Int.toNat_natCast]
  have h4 := getD_four hy.2 a
  have hset : ∀ r : List Int, r.length ≤ 20 → AB (y.set (a : Int).toNat r) := fun r hr => ⟨by rw [List.length_set]; omega, fun x hx => by
    rcases List.mem_or_eq_of_mem_set hx with hx | rfl
    · exact hAB.2 x hx
    · exact hr⟩
  by_cases c0 : z = 0
  · obtain ⟨b, i4, s4, e4, _, g4⟩ := among_ev hc (s := s3) (i := i3) (by omega) [0, 100, 99, 1] (by decide)
    refine ⟨y.set (a : Int).toNat (y.getD a [] ++ [b]), i4, s4, Ev.bind e1 (ev_call e2 (ev_call e3 (ev_pos c0 (ev_pos (by (try dsimp only); omega) (ev_pos (by (try dsimp only); omega) (ev_call e4 ?_)))))), hset (y.getD a [] ++ [b]) (by rw [List.length_append, List.length_singleton]; omega), by omega, by omega⟩
    try dsimp only
    rw [ea]
    exact ev_pos (by omega) (ev_const rfl)
  by_cases c1 : z = 1
  · exact ⟨y.set (a : Int).toNat [21, 22, 23, 24, 25], i3, s3, Ev.bind e1 (ev_call e2 (ev_call e3 (ev_neg c0 (ev_pos c1 (ev_pos (by (try dsimp only); omega) (ev_pos (by (try dsimp only); omega) (ev_const rfl))))))), hset [21, 22, 23, 24, 25] (by simp), by (try dsimp only); omega, by (try dsimp only); omega⟩
  by_cases c2 : z = 2
  · exact ⟨[], i3, s3, Ev.bind e1 (ev_call e2 (ev_call e3 (ev_neg c0 (ev_neg c1 (ev_pos c2 (ev_const rfl)))))), ⟨by simp, fun x hx => by cases hx⟩, by (try dsimp only); omega, by (try dsimp only); omega⟩
  by_cases c3 : z = 3
  · obtain ⟨l', j, s', g5, g6, g7, g8⟩ := any_l0 hc 8 0 i3 s3 y (by omega) (by omega) hAB.2 (by omega) (by omega)
    exact ⟨l', j, s', Ev.bind e1 (ev_call e2 (ev_call e3 (ev_neg c0 (ev_neg c1 (ev_neg c2 (ev_pos c3 g5)))))), g6, by omega, by omega⟩
  · exact ⟨y, i3, s3, Ev.bind e1 (ev_call e2 (ev_call e3 (ev_neg c0 (ev_neg c1 (ev_neg c2 (ev_neg c3 (ev_const rfl))))))), hAB, by (try dsimp only); omega, by (try dsimp only); omega⟩
/-! The worst number is badly placed. -/
theorem bad_cnt (row : List Int) (j : Nat) (hj : j < row.length) (hn : row.length ≤ 1048576) : 0 ≤ cntLess (row.getD j 0) (row.take j) 0 ∧ (0 < cntLess (row.getD j 0) (row.take j) 0 ↔ bad row j = true) := by
  obtain ⟨h1, h2, h3, h4⟩ := cnt_any (row.getD j 0) (row.take j) 0 (by omega) (by rw [List.length_take]; omega)
  unfold bad
  cases hb : (row.take j).any fun x => decide (x < row.getD j 0)
  · rw [h4 hb]; simp
  · have := h3 hb
    exact ⟨by omega, ⟨fun _ => rfl, fun _ => by omega⟩⟩
def WP (s : Int × Int) (acc : List Int) : Prop := 0 ≤ s.2 ∧ (0 < s.2 ↔ 0 < acc.length) ∧ (0 < s.2 → s.1 ∈ acc)
theorem WP_step {s : Int × Int} {acc : List Int} (n c : Int) (b : Bool) (h : WP s acc) (h0 : 0 ≤ c) (hb : 0 < c ↔ b = true) : WP (upd s n c) (acc ++ if b = true then [n] else []) := by
  obtain ⟨h1, h2, h3⟩ := h
  cases b
  · have hc : c = 0 := by
      have : ¬ 0 < c := fun h => by have := hb.mp h; cases this
      omega
    subst hc
    rw [if_neg (by simp), List.append_nil]
    have e : upd s n 0 = s := by
      unfold upd
      rw [if_neg (by omega)]
      split
      · rw [if_neg (by omega)]
      · rfl
    rw [e]
    exact ⟨h1, h2, h3⟩
  · have hc : 0 < c := hb.mpr rfl
    rw [if_pos rfl]
    have hm : n ∈ acc ++ [n] := List.mem_append_right _ List.mem_cons_self
    have hl : 0 < (acc ++ [n]).length := by rw [List.length_append, List.length_singleton]; omega
    unfold upd
    split
    · exact ⟨h0, ⟨fun _ => hl, fun _ => hc⟩, fun _ => hm⟩
    · have hs : 0 < s.2 := by omega
      have hk : WP s (acc ++ [n]) := ⟨h1, ⟨fun _ => hl, fun _ => hs⟩, fun h => List.mem_append_left _ (h3 h)⟩
      repeat' split
      all_goals first | exact hk | exact ⟨h0, ⟨fun _ => hl, fun _ => hc⟩, fun _ => hm⟩
theorem WP_row (row : List Int) (hn : row.length ≤ 1048576) : ∀ d j (s : Int × Int) (acc : List Int), j + d = row.length → WP s acc → WP (wrow row d j s) (acc ++ badR row d j)
  | 0, j, s, acc, hj, h => by rw [wrow, badR, List.append_nil]; exact h
  | d + 1, j, s, acc, hj, h => by
    rw [wrow, badR, ← List.append_assoc]
    obtain ⟨b1, b2⟩ := bad_cnt row j (by omega) hn
    exact WP_row row hn d (j + 1) _ _ (by omega) (WP_step _ _ _ h b1 b2)
theorem WP_tab : ∀ (l : List (List Int)) (s : Int × Int) (acc : List Int), (∀ x, x ∈ l → x.length ≤ 1048576) → WP s acc → WP (wtab l s) (acc ++ badA l)
  | [], s, acc, _, h => by rw [wtab, badA, List.append_nil]; exact h
  | r :: l, s, acc, hx, h => by
    rw [wtab, badA, ← List.append_assoc]
    exact WP_tab l _ _ (fun x hx2 => hx x (List.mem_cons_of_mem _ hx2)) (WP_row r (hx r List.mem_cons_self) r.length 0 s acc (by omega) h)
/-! A badly placed number stands in no sorted stack. -/
theorem badA_at (n : Int) : ∀ (l : List (List Int)), n ∈ badA l → ∃ i, ∃ h : i < l.length, n ∈ badR l[i] l[i].length 0
  | [], h => by cases h
  | r :: l, h => by
    unfold badA at h
    rcases List.mem_append.mp h with h | h
    · exact ⟨0, by simp, h⟩
    · obtain ⟨i, hi, hh⟩ := badA_at n l h
      exact ⟨i + 1, by simpa using hi, by simpa using hh⟩
theorem findR_at (v : Int) : ∀ (l : List (List Int)) (i j : Nat) (h : j < l.length), v ∈ l[j] → l.flatten.Nodup → (findR v l i).1 = ((i + j : Nat) : Int)
  | r :: l, i, 0, h, hv, _ => by
    unfold findR
    rw [if_pos (by simpa using hv)]; rfl
  | r :: l, i, j + 1, h, hv, hd => by
    have hj : j < l.length := by simpa using h
    have hv2 : v ∈ l[j] := by simpa using hv
    rw [List.flatten_cons] at hd
    obtain ⟨_, d2, d3⟩ := List.nodup_append.mp hd
    have hne : ¬ r.contains v = true := fun hc => d3 v (by simpa using hc) v (List.mem_flatten.mpr ⟨_, List.getElem_mem hj, hv2⟩) rfl
    unfold findR
    rw [if_neg hne, findR_at v l (i + 1) j hj hv2 d2]
    omega
theorem sst_mem (l : List (List Int)) (x : Int) : ∀ d i (acc : List Int), x ∈ sst l d i acc → x ∈ acc ∨ ∃ j : Nat, x = (j : Int) ∧ srt (rd_L2 l j) (rd_L2 l j).length 0 true = true
  | 0, _, _, h => .inl h
  | d + 1, i, acc, h => by
    rw [sst] at h
    rcases sst_mem l x d (i + 1) _ h with h | h
    · split at h
      · rename_i hc
        rcases List.mem_append.mp h with h | h
        · exact .inl h
        · exact .inr ⟨i, List.mem_singleton.mp h, hc⟩
      · exact .inl h
    · exact .inr h
theorem bad_place {l : List (List Int)} (hy : okYard l = true) {n : Int} (hn : n ∈ badA l) : 0 ≤ (findR n l 0).1 ∧ ¬ (findR n l 0).1 ∈ sst l l.length 0 [] := by
  obtain ⟨i, hi, hm⟩ := badA_at n l hn
  have hy2 := hy
  unfold okYard at hy2
  rw [Bool.and_eq_true] at hy2
  obtain ⟨t, ht⟩ := Option.isSome_iff_exists.mp hy2.2
  have hd := (chkRows_once 4 l [] t ht).2.1
  have hin : n ∈ l[i] := by
    have := (badR_sub l[i] l[i].length 0 (by omega)).subset hm
    simpa using this
  have hf := findR_at n l 0 i hi hin hd
  rw [hf]
  refine ⟨by omega, fun hc => ?_⟩
  rcases sst_mem l _ l.length 0 [] hc with h | ⟨j, hj, hs⟩
  · cases h
  · have e : j = i := by omega
    subst e
    rw [rd_l1 l j hi] at hs
    have h2 := srt_blist l[j] l[j].length 0 []
    rw [show ([] : List Int).isEmpty = true from rfl, hs, blist_badR, List.nil_append] at h2
    rw [List.isEmpty_iff.mp h2.symm] at hm
    cases hm
/-! The values of the parts. -/
def badV (l : List (List Int)) : List Int × Bool := if okYard l = true then (puts [] (badA l), true) else ([], false)
theorem bad_both (l : List (List Int)) (hn : l.length ≤ 1048576) (hx : ∀ x, x ∈ l → x.length ≤ 1048576) : Ev (fun k => spec_BadlyPlaced.f k l) (badV l) ∧ Ev (fun k => impl_BadlyPlaced.f k l) (badV l) ∧ (badV l).1.length ≤ 1048576 := by
  unfold spec_BadlyPlaced.f impl_BadlyPlaced.f badV
  have hg := good_spec l hn hx
  cases h : okYard l
  · rw [h] at hg
    rw [if_neg (by simp)]
    refine ⟨Ev.bind hg (ev_neg (by simp) (ev_const rfl)), ev_call (show impl_IsValidYard.f l = some (okYard l) from rfl) ?_, by simp⟩
    rw [h]; exact ev_neg (by simp) (ev_const rfl)
  · rw [h] at hg
    rw [if_pos rfl]
    have hy := okYard_mem h
    refine ⟨Ev.bind hg (ev_pos rfl (Ev.bind (bad_ev hy.1.2 (fun x hx => (hy.2 x hx).1)) (ev_const rfl))), ev_call (show impl_IsValidYard.f l = some (okYard l) from rfl) ?_, ?_⟩
    · rw [h]; exact ev_pos rfl (Ev.bind (all_impl h) (ev_const rfl))
    · have h1 := puts_len (badA l) []
      have h2 := badA_len l (fun x hx => (hy.2 x hx).1)
      rw [List.length_nil] at h1
      try dsimp only
      omega
def sstV (l : List (List Int)) : List Int × Bool := if okYard l = true then (sst l l.length 0 [], true) else ([], false)
theorem sst_ev (l : List (List Int)) (hn : l.length ≤ 1048576) (hx : ∀ x, x ∈ l → x.length ≤ 1048576) : Ev (fun k => impl_SortedStacks.f k l) (sstV l) ∧ (sstV l).1.length ≤ 1048576 := by
  unfold impl_SortedStacks.f sstV
  cases h : okYard l
  · rw [if_neg (by simp)]
    refine ⟨ev_call (show impl_IsValidYard.f l = some (okYard l) from rfl) ?_, by simp⟩
    rw [h]; exact ev_neg (by simp) (ev_const rfl)
  · rw [if_pos rfl]
    refine ⟨ev_call (show impl_IsValidYard.f l = some (okYard l) from rfl) ?_, Nat.le_trans (sst_len l l.length 0 []) (by simp; omega)⟩
    rw [h]; exact ev_pos rfl (ss_impl l hn hx l.length 0 [] (by omega) (by simp))
def worV (l : List (List Int)) : Int × Int × Bool := if okYard l = true then wfin (wtab l (0, 0)) else (0, 0, false)
theorem wor_both (l : List (List Int)) (hn : l.length ≤ 1048576) (hx : ∀ x, x ∈ l → x.length ≤ 1048576) : Ev (fun k => spec_WorstBox.f k l) (worV l) ∧ Ev (fun k => impl_WorstBox.f k l) (worV l) := by
  unfold spec_WorstBox.f impl_WorstBox.f worV
  have hg := good_spec l hn hx
  cases h : okYard l
  · rw [h] at hg
    rw [if_neg (by simp)]
    refine ⟨Ev.bind hg (ev_neg (by simp) (ev_const rfl)), ev_call (show impl_IsValidYard.f l = some (okYard l) from rfl) ?_⟩
    rw [h]; exact ev_neg (by simp) (ev_const rfl)
  · rw [h] at hg
    rw [if_pos rfl]
    refine ⟨Ev.bind hg (ev_pos rfl (worst_spec_l l hn hx l.length 0 (0, 0) (by omega))), ev_call (show impl_IsValidYard.f l = some (okYard l) from rfl) ?_⟩
    rw [h]; exact ev_pos rfl (worst_impl_l l hn hx l.length 0 (0, 0) (by omega))
/-! The law. -/
theorem vints_l (l : List Int) (hn : l.length ≤ 1048576) : ∀ d i, i + d = l.length → Ev (fun k => laws_vInts.l0 k l l (i : Int)) true := by
  intro d
  induction d with
  | zero => intro i hi; exact Ev.step (fun k => by simp only [laws_vInts.l0]; rfl) (ev_neg (by omega) (ev_const rfl))
  | succ d ih =>
    intro i hi
    have hlt : i < l.length := by omega
    refine Ev.step (fun k => by simp only [laws_vInts.l0]; rfl) (ev_pos (by omega) (ev_pos (by omega) (ev_pos (by omega) ?_)))
    rw [wsucc hlt (by omega)]
    exact ev_pos trivial (ih (i + 1) (by omega))
theorem vints_ev (l : List Int) (hn : l.length ≤ 1048576) : Ev (fun k => laws_vInts.f k l l) true := by
  unfold laws_vInts.f
  exact ev_pos rfl (vints_l l hn l.length 0 (by omega))
theorem vhas_l (l : List Int) (x : Int) (hn : l.length ≤ 1048576) : ∀ d i, i + d = l.length → Ev (fun k => laws_vHas.l0 k l x (i : Int)) (decide (x ∈ l.drop i)) := by
  intro d
  induction d with
  | zero => intro i hi; refine Ev.step (fun k => by simp only [laws_vHas.l0]; rfl) (ev_neg (by omega) (ev_const ?_)); rw [List.drop_of_length_le (by omega)]; simp
  | succ d ih =>
    intro i hi
    have hlt : i < l.length := by omega
    refine Ev.step (fun k => by simp only [laws_vHas.l0]; rfl) (ev_pos (by omega) (ev_pos (by omega) ?_))
    rw [rd_at l i hlt, wsucc hlt (by omega), List.drop_eq_getElem_cons hlt]
    by_cases h : l[i] = x
    · exact ev_pos h (ev_const (by rw [decide_eq_true (by rw [h]; exact List.mem_cons_self)]))
    · refine ev_eq (ev_neg h (ih (i + 1) (by omega))) ?_
      rw [decide_eq_decide, List.mem_cons]
      exact ⟨.inr, fun h2 => h2.elim (fun h3 => absurd h3.symm h) id⟩
theorem vhas_ev (l : List Int) (x : Int) (hn : l.length ≤ 1048576) : Ev (fun k => laws_vHas.f k l x) (decide (x ∈ l)) := by
  unfold laws_vHas.f
  exact vhas_l l x hn l.length 0 (by omega)
theorem drawA_ev {c : List Int} (hc : codeOk c) : ∃ l, Ev (fun k => spec_DrawBadlyPlaced.f k c) l ∧ AB l := by
  unfold spec_DrawBadlyPlaced.f spec_DrawIsValidYard.f
  obtain ⟨l, j, s, e, h, _⟩ := any_ev hc (i := 0) (s := 0) (by omega)
  exact ⟨l, Ev.bind (a := l) (Ev.bind e (ev_const rfl)) (ev_const rfl), h⟩
theorem drawB_ev {c : List Int} (hc : codeOk c) : ∃ l x, Ev (fun k => spec_DrawChooseStack.f k c) (l, x) ∧ AB l := by
  unfold spec_DrawChooseStack.f
  obtain ⟨l, j, s, e, h, g⟩ := any_ev hc (i := 0) (s := 0) (by omega)
  obtain ⟨x, j2, s2, e2, _⟩ := among_ev hc (s := s) (i := j) (by omega) [1, 10, 11, 12, 50, 99, 3, 0, 100] (by decide)
  exact ⟨l, x, Ev.bind e (ev_call e2 (ev_const rfl)), h⟩
theorem earl_in (row : List Int) (h : ∀ n, n ∈ row → 1 ≤ n) : 1 ≤ earl row ∧ earl row ≤ 100 := by
  unfold earl
  have key : ∀ (l : List Int) (m : Int), (∀ n, n ∈ l → 1 ≤ n) → 1 ≤ m ∧ m ≤ 100 → 1 ≤ l.foldl mn m ∧ l.foldl mn m ≤ 100 := by
    intro l
    induction l with
    | nil => intro m _ hm; exact hm
    | cons x l ih =>
      intro m hl hm
      rw [List.foldl_cons]
      refine ih _ (fun n hn => hl n (List.mem_cons_of_mem _ hn)) ?_
      have := hl x List.mem_cons_self
      unfold mn
      split <;> omega
  exact key row 100 h (by omega)
theorem choose_part {l : List (List Int)} (hn : l.length ≤ 1048576) (hx : ∀ x, x ∈ l → x.length ≤ 1048576) (a : Int) :
    ∃ (k : Int) (b : Bool), Ev (fun n => spec_ChooseStack.f n l a) (k, b) ∧ Ev (fun n => impl_ChooseStack.f n l a) (k, b) ∧ (b = true → ∃ e, impl_EarliestOf.f l k = some (e, true) ∧ 1 ≤ e ∧ e ≤ 100) := by
  unfold spec_ChooseStack.f impl_ChooseStack.f
  have h1 := asked_spec l hn hx [a] (by simp)
  have h2 := asked_impl l hn hx [a] (by simp)
  cases h : (okYard l && (arrs l [] [a] && decide ((([a] : List Int).length : Int) ≤ 5)))
  · rw [h] at h1 h2
    exact ⟨0, false, Ev.bind h1 (ev_neg (by simp) (ev_const rfl)), Ev.bind h2 (ev_neg (by simp) (ev_const rfl)), fun h => by cases h⟩
  · rw [h] at h1 h2
    have hy : okYard l = true := (Bool.and_eq_true_iff.mp h).1
    by_cases hc : chose l a < 0
    · refine ⟨0, false, Ev.bind h1 (ev_pos rfl (Ev.bind (choose_spec (fine_ok hy) hn a) (ev_pos hc (ev_const rfl)))), Ev.bind h2 (ev_pos rfl (Ev.bind (choose_impl (fine_ok hy) hn a) (ev_const ?_))), fun h => by cases h⟩
      rw [decide_eq_false (by omega), show mx 0 (chose l a) = 0 from if_neg (by omega)]
    · have hr := chose_room l a
      unfold room at hr
      have hr := hr.resolve_left hc
      refine ⟨chose l a, true, Ev.bind h1 (ev_pos rfl (Ev.bind (choose_spec (fine_ok hy) hn a) (ev_neg hc (Ev.bind (choose_spec (fine_ok hy) hn a) (ev_const rfl))))), Ev.bind h2 (ev_pos rfl (Ev.bind (choose_impl (fine_ok hy) hn a) (ev_const ?_))), fun _ => ?_⟩
      · rw [decide_eq_true (by omega)]
        have : mx 0 (chose l a) = chose l a := by unfold mx; split <;> omega
        rw [this]
      · obtain ⟨e1, _⟩ := earl_at (fine_ok hy) (s := chose l a) (by omega) hr.1
        have hs : hasS l (chose l a) = true := by
          unfold hasS
          rw [hy, inr_iff.mpr (by omega)]; rfl
        have hmem := okYard_mem hy
        obtain ⟨b1, b2⟩ := earl_in (rd_L2 l (chose l a)) (fun n hn2 => ((hmem.2 _ (rdl_mem (l := l) (s := chose l a) (by omega) hr.1)).2 n hn2).1)
        refine ⟨earl (rd_L2 l (chose l a)), ?_, b1, b2⟩
        unfold impl_EarliestOf.f
        rw [stack_impl, hs, Option.bind_some, if_pos rfl, if_pos (by omega), if_pos hr.1, e1]; rfl
theorem law_end {c B S : List Int} (hc : codeOk c) (l : List (List Int)) (j : Int) (hj : (B.length : Int) ≤ j) : Ev (fun k => laws_FnBadlyPlaced.l0 k c B S j l) true := by
  obtain ⟨z, x, e1, hz⟩ := drawB_ev hc
  obtain ⟨k, b, g1, g2, g3⟩ := choose_part (l := z) (by have := hz.1; omega) (fun x hx => by have := hz.2 x hx; omega) x
  refine Ev.step (fun k => by simp only [laws_FnBadlyPlaced.l0]; rfl) (ev_neg (by omega) (Ev.bind e1 (Ev.bind g2 (Ev.bind g1 (ev_pos rfl ?_)))))
  refine ev_neg (by (try dsimp only); exact fun h => by simp at h) ?_
  cases b
  · exact ev_neg (by simp) (ev_const rfl)
  · obtain ⟨e, h1, h2, h3⟩ := g3 rfl
    exact ev_pos rfl (ev_call h1 (ev_pos rfl (ev_neg (by (try dsimp only); omega) (ev_neg (by (try dsimp only); omega) (ev_const rfl)))))
theorem law_l0 {c B S : List Int} (hc : codeOk c) {l : List (List Int)} (hy : okYard l = true) (hB : ∀ n, n ∈ B → n ∈ badA l) (hS : S = sst l l.length 0 []) (hSl : S.length ≤ 1048576) : ∀ d j, j + d = B.length → B.length ≤ 1048576 → Ev (fun k => laws_FnBadlyPlaced.l0 k c B S (j : Int) l) true
  | 0, j, hj, hb => law_end hc l (j : Int) (by omega)
  | d + 1, j, hj, hb => by
    have hlt : j < B.length := by omega
    have hm := okYard_mem hy
    obtain ⟨p1, p2⟩ := bad_place hy (hB _ (List.getElem_mem hlt))
    have hp := place_impl l B[j] (by omega) (fun x hx => by have := (hm.2 x hx).1; omega)
    have hpl : Ev (fun k => impl_PlaceOf.f k l B[j]) ((findR B[j] l 0).1, (findR B[j] l 0).2, true) := by
      unfold impl_PlaceOf.f
      refine Ev.bind hp (ev_call (show impl_IsValidYard.f l = some (okYard l) from rfl) ?_)
      rw [hy]
      exact ev_pos rfl (ev_neg (by omega) (ev_const rfl))
    refine Ev.step (fun k => by simp only [laws_FnBadlyPlaced.l0]; rfl) (ev_pos (by omega) (ev_pos (by omega) ?_))
    rw [rd_at B j hlt, wsucc hlt (by omega)]
    refine Ev.bind hpl (ev_pos rfl (Ev.bind (vhas_ev S (findR B[j] l 0).1 hSl) ?_))
    rw [decide_eq_false (by rw [hS]; exact p2)]
    exact ev_neg (by simp) (law_l0 hc hy hB hS hSl d (j + 1) (by omega) hb)
theorem law_true {l0 : List Int} (hl : l0.length ≤ 9223372036854775807) (hw : ∀ x, x ∈ l0 → 0 ≤ x ∧ x ≤ 255) : Ev (fun k => laws_FnBadlyPlaced.f k l0) true := by
  unfold laws_FnBadlyPlaced.f
  have hb : laws_vBig.f l0 = some (decide ((l0.length : Int) > 65536)) := rfl
  refine ev_call hb ?_
  by_cases hbig : (l0.length : Int) > 65536
  · rw [decide_eq_true hbig]; exact ev_pos rfl (ev_const rfl)
  rw [decide_eq_false hbig]
  refine ev_neg (by simp) ?_
  have hc : codeOk l0 := ⟨by omega, hw⟩
  obtain ⟨l, e, hA⟩ := drawA_ev hc
  have hn : l.length ≤ 1048576 := by have := hA.1; omega
  have hx : ∀ x, x ∈ l → x.length ≤ 1048576 := fun x hx => by have := hA.2 x hx; omega
  obtain ⟨b1, b2, b3⟩ := bad_both l hn hx
  obtain ⟨s1, s2⟩ := sst_ev l hn hx
  obtain ⟨w1, w2⟩ := wor_both l hn hx
  refine Ev.bind e (Ev.bind b2 (Ev.bind b1 (ev_neg (by simp) (Ev.bind (vints_ev _ b3) (ev_pos rfl (Ev.bind s1 ?_))))))
  refine ev_neg (by unfold sstV badV; cases okYard l <;> simp) ?_
  refine Ev.bind w2 (Ev.bind w1 (ev_pos rfl (ev_pos rfl (ev_neg (by simp) ?_))))
  cases hy : okYard l
  · have hbv : badV l = ([], false) := by unfold badV; rw [hy, if_neg (by simp)]
    have hwv : worV l = (0, 0, false) := by unfold worV; rw [hy, if_neg (by simp)]
    rw [hbv, hwv]
    refine ev_neg (by simp) (ev_neg (by simp) (Ev.step (fun k => by simp only [laws_FnBadlyPlaced.j0]; rfl) (ev_neg (by simp) ?_)))
    exact law_end hc l 0 (by simp)
  · have hbv : badV l = (puts [] (badA l), true) := by unfold badV; rw [hy, if_pos rfl]
    have hsv : sstV l = (sst l l.length 0 [], true) := by unfold sstV; rw [hy, if_pos rfl]
    have hwv : worV l = wfin (wtab l (0, 0)) := by unfold worV; rw [hy, if_pos rfl]
    rw [hbv] at b3
    rw [hsv] at s2
    rw [hbv, hsv, hwv]
    obtain ⟨p1, p2, p3⟩ := WP_tab l (0, 0) [] hx ⟨by simp, by simp, by simp⟩
    rw [List.nil_append] at p2 p3
    have hpl : (puts [] (badA l)).length = (badA l).length := by rw [← sort_puts _ (badA_nodup hy), List.length_mergeSort]
    have hj := law_l0 (c := l0) (B := puts [] (badA l)) (S := sst l l.length 0 []) hc hy (fun n hn2 => by
      rw [puts_mem] at hn2
      rcases hn2 with h | h
      · cases h
      · exact h) rfl s2 (puts [] (badA l)).length 0 (by omega) b3
    have hj0 : Ev (fun k => laws_FnBadlyPlaced.j0 k l0 (puts [] (badA l)) (sst l l.length 0 []) false l) true := Ev.step (fun k => by simp only [laws_FnBadlyPlaced.j0]; rfl) (ev_neg (by simp) hj)
    refine ev_neg ?_ ?_
    · unfold wfin
      try dsimp only
      rw [hpl]
      have : decide ((wtab l (0, 0)).2 > 0) = decide (((badA l).length : Int) > 0) := by
        rw [decide_eq_decide]
        constructor
        · intro h; have := p2.mp h; omega
        · intro h; exact p2.mpr (by omega)
      rw [this]; simp
    by_cases hpos : (wtab l (0, 0)).2 > 0
    · refine ev_pos (by unfold wfin; exact decide_eq_true hpos) ?_
      refine Ev.bind (vhas_ev _ _ b3) ?_
      rw [decide_eq_true (by rw [puts_mem]; exact .inr (p3 hpos))]
      exact hj0
    · refine ev_neg (by unfold wfin; simpa using hpos) hj0
end Go.Proofs.Ytmggkimmnekhcaa.UY
