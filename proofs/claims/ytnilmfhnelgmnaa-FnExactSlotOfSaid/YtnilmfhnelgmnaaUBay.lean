/- Bays: the laws' helpers, the reference's validity, balance and places, beside the program's. -/
import Derived.Test.YtnilmfhnelgmnaaPx0
import Derived.Test.YtnilmfhnelgmnaaPx1
import Derived.Test.YtnilmfhnelgmnaaPx10
import Derived.Test.YtnilmfhnelgmnaaPx11
import Derived.Test.YtnilmfhnelgmnaaPx13
import Derived.Test.YtnilmfhnelgmnaaPx14
import Derived.Test.YtnilmfhnelgmnaaPx15
import Derived.Test.YtnilmfhnelgmnaaPx3
import Derived.Test.YtnilmfhnelgmnaaPx4
import Derived.Test.YtnilmfhnelgmnaaPx5
import Derived.Test.YtnilmfhnelgmnaaPx6
import Derived.Test.YtnilmfhnelgmnaaPx8
import Derived.Test.YtnilmfhnelgmnaaUTab
namespace Go.Proofs.Ytnilmfhnelgmnaa.UB
open Go.RowKit Go.Proofs.YtnilmfhnelgmnaaW.PrintWords Go.Proofs.YtnilmfhnelgmnaaW.PrintMore Go.Proofs.Ytnilmfhnelgmnaa.P Go.Proofs.Ytnilmfhnelgmnaa.U Go.Proofs.Ytnilmfhnelgmnaa.UT
set_option linter.unusedVariables false

theorem good_args {s : S24} (h : G24 s) : s.f1.length ≤ 9223372036854775807 ∧ ∀ x, x ∈ s.f1 → x.length ≤ 9223372036854775807 := ⟨h.2.1, fun x hx => (h.2.2 x hx).1⟩
theorem sz_bay (h : Int) (l : List (List Int)) (hl : l.length ≤ 9223372036854775807) (hx : ∀ x, x ∈ l → x.length ≤ 9223372036854775807) :
    ∃ n, Ev (fun k => laws_szBay.f k h l 1048576) n ∧ (0 ≤ n → l.length ≤ 1048576 ∧ ∀ x, x ∈ l → x.length ≤ 1048576) := by
  obtain ⟨n, h1, h2, h3⟩ := sz_ev l hl hx
  unfold laws_szBay.f
  by_cases hn : n < 0
  · exact ⟨-1, Ev.bind h1 (ev_pos hn (ev_const rfl)), fun h => by omega⟩
  · exact ⟨n, Ev.bind h1 (ev_neg hn (ev_const rfl)), h3⟩
theorem to_bay (h : Int) (l : List (List Int)) (hn : l.length ≤ 1048576) (hx : ∀ x, x ∈ l → x.length ≤ 1048576) : Ev (fun k => laws_toBay.f k h l) (h, l) := by
  unfold laws_toBay.f
  exact Ev.bind (to_ev l hn hx) (ev_const rfl)
theorem eq_bay (h : Int) (l : List (List Int)) (hn : l.length ≤ 9223372036854775807) (hx : ∀ x, x ∈ l → x.length ≤ 9223372036854775807) : Ev (fun k => laws_eqBay.f k h l h l) true := by
  unfold laws_eqBay.f
  exact ev_pos rfl (Ev.bind (eq_ev l hn hx) (ev_pos rfl (ev_const rfl)))

theorem contains_rev (s : List Int) (n : Int) : s.reverse.contains n = s.contains n := by
  rw [Bool.eq_iff_iff]; simp
/-- The reference's loops: what is left of the check. -/
theorem good_l (h : Int) (l : List (List Int)) (hn : l.length ≤ 9223372036854775807) (hx : ∀ x, x ∈ l → x.length ≤ 1048576) : ∀ d i (s : List Int), i + d = l.length → s.length ≤ i * 1048576 → l.length ≤ 1048576 →
    Ev (fun k => spec_l9Good.l0 k s.reverse (i : Int) h l) ((chkRows h (l.drop i) s).isSome) := by
  intro d
  induction d with
  | zero =>
    intro i s hi hs _
    refine Ev.step (fun k => by simp only [spec_l9Good.l0]; rfl) ?_
    refine ev_neg (by omega) (ev_const ?_)
    rw [List.drop_of_length_le (by omega)]; rfl
  | succ d ih =>
    intro i s hi hs hll
    have hlt : i < l.length := by omega
    refine Ev.step (fun k => by simp only [spec_l9Good.l0]; rfl) ?_
    refine ev_pos (by omega) (ev_pos (by omega) ?_)
    rw [rd_l1 l i hlt, List.drop_eq_getElem_cons hlt]
    have hxi := hx _ (List.getElem_mem hlt)
    unfold chkRows
    by_cases hc : (l[i].length : Int) ≤ h
    · rw [if_pos hc]
      refine ev_neg (by omega) ?_
      have inner : ∀ e j (s : List Int), j + e = l[i].length → s.length ≤ i * 1048576 + j → Ev (fun k => spec_l9Good.l1 k s.reverse (i : Int) (j : Int) h l) (((chkRow (l[i].drop j) s).bind (chkRows h (l.drop (i + 1)))).isSome) := by
        intro e
        induction e with
        | zero =>
          intro j s hj hs
          refine Ev.step (fun k => by simp only [spec_l9Good.l1]; rfl) ?_
          refine ev_pos (by omega) (ev_pos (by omega) ?_)
          rw [rd_l1 l i hlt, wsucc hlt hn]
          refine ev_neg (by omega) ?_
          rw [List.drop_of_length_le (by omega)]
          exact ih (i + 1) s (by omega) (by omega) hll
        | succ e ihe =>
          intro j s hj hs
          have hjt : j < l[i].length := by omega
          refine Ev.step (fun k => by simp only [spec_l9Good.l1]; rfl) ?_
          refine ev_pos (by omega) (ev_pos (by omega) ?_)
          rw [rd_l1 l i hlt, rd_at _ j hjt, wsucc hjt (by omega), List.drop_eq_getElem_cons hjt]
          refine ev_pos (by omega) (ev_pos (by omega) ?_)
          refine ev_call (in_spec _ _ _) ?_
          cases h1 : inr l[i][j] 1 99
          · exact ev_eq (ev_neg (by simp) (ev_const rfl)) (by rw [chkRow_bad (by rw [h1]; rfl)]; rfl)
          refine ev_pos rfl ?_
          have hh := has_ev s.reverse l[i][j] (by rw [List.length_reverse]; omega)
          rw [contains_rev] at hh
          refine Ev.bind hh ?_
          cases h2 : s.contains l[i][j]
          · refine ev_neg (by simp) (ev_pos (by rw [List.length_reverse]; omega) ?_)
            rw [chkRow_ok (by rw [h1, h2]; rfl)]
            have e2 := ihe (j + 1) (l[i][j] :: s) (by omega) (by rw [List.length_cons]; omega)
            rw [List.reverse_cons] at e2
            exact e2
          · exact ev_eq (ev_pos rfl (ev_const rfl)) (by rw [chkRow_bad (by rw [h1, h2]; rfl)]; rfl)
      exact inner l[i].length 0 s (by omega) (Nat.le_trans hs (Nat.le_add_right _ _))
    · rw [if_neg hc]
      exact ev_pos (by omega) (ev_const rfl)
theorem good_spec (h : Int) (l : List (List Int)) (hn : l.length ≤ 1048576) (hx : ∀ x, x ∈ l → x.length ≤ 1048576) : Ev (fun k => spec_l9Good.f k h l) (okBay h l) := by
  unfold spec_l9Good.f okBay
  refine ev_call (in_spec _ _ _) ?_
  cases h1 : inr h 1 4
  · refine ev_neg (by simp) ?_
    refine Ev.step (fun k => by simp only [spec_l9Good.j0]; rfl) ?_
    exact ev_pos (by simp) (ev_const rfl)
  refine ev_pos rfl (ev_call (in_spec _ _ _) ?_)
  cases h2 : inr (l.length : Int) 1 5
  · refine Ev.step (fun k => by simp only [spec_l9Good.j0]; rfl) ?_
    exact ev_pos (by simp) (ev_const rfl)
  · refine Ev.step (fun k => by simp only [spec_l9Good.j0]; rfl) ?_
    exact ev_neg (by simp) (good_l h l (by omega) hx l.length 0 [] (by omega) (by simp) hn)

theorem valid_same (h : Int) (l : List (List Int)) (hn : l.length ≤ 1048576) (hx : ∀ x, x ∈ l → x.length ≤ 1048576) : ∃ r, Ev (fun k => spec_IsValidBay.f k h l) r ∧ Ev (fun _ => impl_IsValidBay.f h l) r := by
  unfold spec_IsValidBay.f impl_IsValidBay.f
  exact ⟨_, Ev.bind (good_spec h l hn hx) (ev_const rfl), ev_const rfl⟩

/-- The balance, from place i on. -/
def bal (n : Nat) : List (List Int) → Nat → Int → Int
  | [], _, s => s
  | x :: l, i, s => bal n l (i + 1) (if 2 * i + 1 < n then wrap64 (s - (x.length : Int)) else if 2 * i + 1 > n then wrap64 (s + (x.length : Int)) else s)
theorem bal_spec (h : Int) (l : List (List Int)) (hn : l.length ≤ 1048576) : ∀ d i (s : Int), i + d = l.length → Ev (fun k => spec_BayBalance.l0 k s (l.length : Int) (i : Int) h l) (bal l.length (l.drop i) i s, true) := by
  intro d
  induction d with
  | zero =>
    intro i s hi
    refine Ev.step (fun k => by simp only [spec_BayBalance.l0]; rfl) ?_
    refine ev_neg (by omega) (ev_const ?_)
    rw [List.drop_of_length_le (by omega)]; rfl
  | succ d ih =>
    intro i s hi
    have hlt : i < l.length := by omega
    refine Ev.step (fun k => by simp only [spec_BayBalance.l0]; rfl) ?_
    rw [wsucc hlt (by omega), rd_l1 l i hlt, List.drop_eq_getElem_cons hlt, wr (x := 2 * (i : Int)) (by omega) (by omega), wr (x := 2 * (i : Int) + 1) (by omega) (by omega)]
    refine ev_pos (by omega) ?_
    unfold bal
    by_cases h1 : 2 * i + 1 < l.length
    · rw [if_pos h1]
      exact ev_pos (by omega) (ev_pos (by omega) (ev_pos (by omega) (ih (i + 1) _ (by omega))))
    rw [if_neg h1]
    by_cases h2 : 2 * i + 1 > l.length
    · rw [if_pos h2]
      exact ev_neg (by omega) (ev_pos (by omega) (ev_pos (by omega) (ev_pos (by omega) (ih (i + 1) _ (by omega)))))
    · rw [if_neg h2]
      exact ev_neg (by omega) (ev_neg (by omega) (ih (i + 1) _ (by omega)))
theorem bal_impl (l : List (List Int)) (hn : l.length ≤ 1048576) : ∀ d i (s : Int), i + d = l.length → Ev (fun k => impl_BayBalance.l0 k (l.length : Int) s l (l.length : Int) (i : Int)) (bal l.length (l.drop i) i s, true) := by
  have eh := half l.length (by omega)
  intro d
  induction d with
  | zero =>
    intro i s hi
    refine Ev.step (fun k => by simp only [impl_BayBalance.l0]; rfl) ?_
    refine ev_neg (by omega) (ev_const ?_)
    rw [List.drop_of_length_le (by omega)]; rfl
  | succ d ih =>
    intro i s hi
    have hlt : i < l.length := by omega
    refine Ev.step (fun k => by simp only [impl_BayBalance.l0]; rfl) ?_
    rw [wsucc hlt (by omega), rd_l1 l i hlt, List.drop_eq_getElem_cons hlt, eh.1, eh.2]
    refine ev_pos (by omega) (ev_pos (by omega) (ev_pos (by omega) ?_))
    unfold bal
    by_cases h1 : 2 * i + 1 < l.length
    · rw [if_pos h1]
      exact ev_pos (by omega) (ih (i + 1) _ (by omega))
    rw [if_neg h1]
    by_cases h2 : 2 * i + 1 > l.length
    · rw [if_pos h2]
      exact ev_neg (by omega) (ev_pos (by omega) (ih (i + 1) _ (by omega)))
    · rw [if_neg h2]
      exact ev_neg (by omega) (ev_neg (by omega) (ih (i + 1) _ (by omega)))
theorem balance_same (h : Int) (l : List (List Int)) (hn : l.length ≤ 1048576) (hx : ∀ x, x ∈ l → x.length ≤ 1048576) : ∃ r, Ev (fun k => spec_BayBalance.f k h l) r ∧ Ev (fun k => impl_BayBalance.f k h l) r := by
  unfold spec_BayBalance.f impl_BayBalance.f impl_IsValidBay.f
  have hg := good_spec h l hn hx
  generalize okBay h l = ok at hg ⊢
  cases ok
  · exact ⟨_, Ev.bind hg (ev_neg (by simp) (ev_const rfl)), ev_call rfl (ev_neg (by simp) (ev_const rfl))⟩
  · exact ⟨_, Ev.bind hg (ev_pos rfl (bal_spec h l hn l.length 0 0 (by omega))), ev_call rfl (ev_pos rfl (bal_impl l hn l.length 0 0 (by omega)))⟩

/-! Where a number lies: its row and its place. -/
def idx (v : Int) : List Int → Nat → Int
  | [], _ => -1
  | x :: l, i => if x = v then (i : Int) else idx v l (i + 1)
theorem idx_lo (v : Int) : ∀ (l : List Int) (i : Nat), idx v l i = -1 ∨ (i : Int) ≤ idx v l i
  | [], _ => .inl rfl
  | x :: l, i => by
    unfold idx
    split
    · exact .inr (Int.le_refl _)
    · rcases idx_lo v l (i + 1) with h | h
      · exact .inl h
      · exact .inr (by omega)
def find (v : Int) : List (List Int) → Nat → Int × Int
  | [], _ => (-1, -1)
  | x :: l, i => if 0 ≤ idx v x 0 then ((i : Int), idx v x 0) else find v l (i + 1)
theorem find_spec (h v : Int) (l : List (List Int)) (hn : l.length ≤ 1048576) (hx : ∀ x, x ∈ l → x.length ≤ 1048576) : ∀ d i, i + d = l.length → Ev (fun k => spec_l9Find.l0 k v (i : Int) h l) (find v (l.drop i) i) := by
  intro d
  induction d with
  | zero =>
    intro i hi
    refine Ev.step (fun k => by simp only [spec_l9Find.l0]; rfl) ?_
    refine ev_neg (by omega) (ev_const ?_)
    rw [List.drop_of_length_le (by omega)]; rfl
  | succ d ih =>
    intro i hi
    have hlt : i < l.length := by omega
    have hxi := hx _ (List.getElem_mem hlt)
    refine Ev.step (fun k => by simp only [spec_l9Find.l0]; rfl) ?_
    refine ev_pos (by omega) ?_
    rw [List.drop_eq_getElem_cons hlt]
    have inner : ∀ e j, j + e = l[i].length → Ev (fun k => spec_l9Find.l1 k v (i : Int) (j : Int) h l) (if 0 ≤ idx v (l[i].drop j) j then ((i : Int), idx v (l[i].drop j) j) else find v (l.drop (i + 1)) (i + 1)) := by
      intro e
      induction e with
      | zero =>
        intro j hj
        refine Ev.step (fun k => by simp only [spec_l9Find.l1]; rfl) ?_
        refine ev_pos (by omega) (ev_pos (by omega) ?_)
        rw [rd_l1 l i hlt, wsucc hlt (by omega), List.drop_of_length_le (show l[i].length ≤ j by omega)]
        refine ev_neg (by omega) ?_
        exact ev_eq (ih (i + 1) (by omega)) (by simp [idx])
      | succ e ihe =>
        intro j hj
        have hjt : j < l[i].length := by omega
        refine Ev.step (fun k => by simp only [spec_l9Find.l1]; rfl) ?_
        refine ev_pos (by omega) (ev_pos (by omega) ?_)
        rw [rd_l1 l i hlt, rd_at _ j hjt, wsucc hjt (by omega), List.drop_eq_getElem_cons hjt]
        refine ev_pos (by omega) (ev_pos (by omega) ?_)
        unfold idx
        by_cases e1 : l[i][j] = v
        · rw [if_pos e1, if_pos (by omega)]
          exact ev_pos e1 (ev_const rfl)
        · rw [if_neg e1]
          exact ev_neg e1 (ihe (j + 1) (by omega))
    unfold find
    exact inner l[i].length 0 (by omega)
theorem index_l (l : List Int) (v : Int) (hn : l.length ≤ 1048576) : ∀ d i, i + d = l.length → Ev (fun k => slices_Index_int_int.l0 k l v (l.length : Int) (i : Int)) (idx v (l.drop i) i) := by
  intro d
  induction d with
  | zero =>
    intro i hi
    refine Ev.step (fun k => by simp only [slices_Index_int_int.l0]; rfl) ?_
    refine ev_neg (by omega) (ev_const ?_)
    rw [List.drop_of_length_le (by omega)]; rfl
  | succ d ih =>
    intro i hi
    have hlt : i < l.length := by omega
    refine Ev.step (fun k => by simp only [slices_Index_int_int.l0]; rfl) ?_
    rw [rd_at l i hlt, wsucc hlt (by omega), List.drop_eq_getElem_cons hlt]
    refine ev_pos (by omega) (ev_pos (by omega) (ev_pos (by omega) ?_))
    unfold idx
    by_cases e : l[i] = v
    · rw [if_pos e]; exact ev_pos e.symm (ev_const rfl)
    · rw [if_neg e]; exact ev_neg (Ne.symm e) (ih (i + 1) (by omega))
theorem index_ev (l : List Int) (v : Int) (hn : l.length ≤ 1048576) : Ev (fun k => slices_Index_int_int.f k l v) (idx v l 0) := by
  unfold slices_Index_int_int.f
  exact index_l l v hn l.length 0 (by omega)
theorem find_impl (v : Int) (l : List (List Int)) (hn : l.length ≤ 1048576) (hx : ∀ x, x ∈ l → x.length ≤ 1048576) : ∀ d i, i + d = l.length → Ev (fun k => impl_placeOf.l0 k v l (l.length : Int) (i : Int)) (find v (l.drop i) i) := by
  intro d
  induction d with
  | zero =>
    intro i hi
    refine Ev.step (fun k => by simp only [impl_placeOf.l0]; rfl) ?_
    refine ev_neg (by omega) (ev_const ?_)
    rw [List.drop_of_length_le (by omega)]; rfl
  | succ d ih =>
    intro i hi
    have hlt : i < l.length := by omega
    refine Ev.step (fun k => by simp only [impl_placeOf.l0]; rfl) ?_
    rw [rd_l1 l i hlt, wsucc hlt (by omega), List.drop_eq_getElem_cons hlt]
    refine ev_pos (by omega) (ev_pos (by omega) (ev_pos (by omega) ?_))
    refine Ev.bind (index_ev _ _ (hx _ (List.getElem_mem hlt))) ?_
    unfold find
    by_cases e : 0 ≤ idx v l[i] 0
    · rw [if_pos e]; exact ev_pos e (ev_const rfl)
    · rw [if_neg e]; exact ev_neg e (ih (i + 1) (by omega))
theorem slot_same (h : Int) (l : List (List Int)) (hn : l.length ≤ 1048576) (hx : ∀ x, x ∈ l → x.length ≤ 1048576) (v : Int) : ∃ r, Ev (fun k => spec_SlotOf.f k h l v) r ∧ Ev (fun k => impl_SlotOf.f k h l v) r := by
  unfold spec_SlotOf.f impl_SlotOf.f impl_slotOf.f impl_placeOf.f spec_l9Find.f impl_IsValidBay.f
  have hg := good_spec h l hn hx
  have h1 := find_spec h v l hn hx l.length 0 (by omega)
  have h2 := find_impl v l hn hx l.length 0 (by omega)
  rw [List.drop_zero] at h1 h2
  generalize find v l 0 = f at h1 h2
  have h3 : Ev (fun k => (impl_placeOf.l0 k v l (l.length : Int) 0).bind fun bt208 => some (bt208.1, bt208.2)) f := Ev.bind h2 (ev_const rfl)
  generalize okBay h l = ok at hg ⊢
  cases ok
  · exact ⟨_, Ev.bind h1 (Ev.bind hg (ev_neg (by simp) (ev_const rfl))), Ev.bind h3 (ev_call rfl (ev_neg (by simp) (ev_const rfl)))⟩
  by_cases hf : f.1 < 0
  · exact ⟨_, Ev.bind h1 (Ev.bind hg (ev_pos rfl (ev_pos hf (ev_const rfl)))), Ev.bind h3 (ev_call rfl (ev_pos rfl (ev_pos hf (ev_const rfl))))⟩
  · exact ⟨_, Ev.bind h1 (Ev.bind hg (ev_pos rfl (ev_neg hf (ev_const rfl)))), Ev.bind h3 (ev_call rfl (ev_pos rfl (ev_neg hf (ev_const rfl))))⟩
end Go.Proofs.Ytnilmfhnelgmnaa.UB
