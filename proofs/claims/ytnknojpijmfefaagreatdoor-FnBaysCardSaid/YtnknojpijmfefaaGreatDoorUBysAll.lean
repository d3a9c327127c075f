/- The law of bays, with all that it takes over. -/
import Derived.Test.YtnknojpijmfefaaGreatDoorPx0
import Derived.Test.YtnknojpijmfefaaGreatDoorPx1
import Derived.Test.YtnknojpijmfefaaGreatDoorPx10
import Derived.Test.YtnknojpijmfefaaGreatDoorPx11
import Derived.Test.YtnknojpijmfefaaGreatDoorPx12
import Derived.Test.YtnknojpijmfefaaGreatDoorPx15
import Derived.Test.YtnknojpijmfefaaGreatDoorPx16
import Derived.Test.YtnknojpijmfefaaGreatDoorPx2
import Derived.Test.YtnknojpijmfefaaGreatDoorPx20
import Derived.Test.YtnknojpijmfefaaGreatDoorPx21
import Derived.Test.YtnknojpijmfefaaGreatDoorPx25
import Derived.Test.YtnknojpijmfefaaGreatDoorPx26
import Derived.Test.YtnknojpijmfefaaGreatDoorPx27
import Derived.Test.YtnknojpijmfefaaGreatDoorPx28
import Derived.Test.YtnknojpijmfefaaGreatDoorPx29
import Derived.Test.YtnknojpijmfefaaGreatDoorPx3
import Derived.Test.YtnknojpijmfefaaGreatDoorPx30
import Derived.Test.YtnknojpijmfefaaGreatDoorPx31
import Derived.Test.YtnknojpijmfefaaGreatDoorPx4
import Derived.Test.YtnknojpijmfefaaGreatDoorPx5
import Derived.Test.YtnknojpijmfefaaGreatDoorPx6
import Derived.Test.YtnknojpijmfefaaGreatDoorPx7
import Derived.Test.YtnknojpijmfefaaGreatDoorPx8
import Derived.Test.YtnknojpijmfefaaGreatDoorPx9
import Derived.Test.YtnknojpijmfefaaGreatDoorU
import Derived.Laws.BitsLemmas
namespace Go.Proofs.YtnknojpijmfefaaGreatDoor.UT
open Go.RowKit Go.Proofs.YtnknojpijmfefaaGreatDoorW.PrintWords Go.Proofs.YtnknojpijmfefaaGreatDoorW.PrintMore Go.Proofs.YtnknojpijmfefaaGreatDoor.P Go.Proofs.YtnknojpijmfefaaGreatDoor.U
set_option linter.unusedVariables false

theorem rd_l1 (l : List (List Int)) (i : Nat) (h : i < l.length) : rd_L2 l (i : Int) = l[i] := by
  unfold rd_L2
  rw [Int.toNat_natCast]
  exact getD_at l i _ h
theorem in_spec (a b c : Int) : spec_l1In.f a b c = some (inr a b c) := by
  unfold spec_l1In.f inr
  by_cases h : b ≤ a <;> simp [h]
theorem has_l (l : List Int) (v : Int) (hn : l.length ≤ 9223372036854775807) : ∀ d i, i + d = l.length → Ev (fun k => spec_l1Has.l0 k l v (i : Int)) ((l.drop i).contains v) := by
  intro d
  induction d with
  | zero =>
    intro i hi
    refine Ev.step (fun k => by simp only [spec_l1Has.l0]; rfl) (ev_neg (by omega) (ev_const ?_))
    rw [List.drop_of_length_le (by omega)]; rfl
  | succ d ih =>
    intro i hi
    have hlt : i < l.length := by omega
    refine Ev.step (fun k => by simp only [spec_l1Has.l0]; rfl) ?_
    refine ev_pos (by omega) (ev_pos (by omega) ?_)
    rw [rd_at l i hlt, wsucc hlt hn, List.drop_eq_getElem_cons hlt, List.contains_cons]
    by_cases e : l[i] = v
    · exact ev_eq (ev_pos e (ev_const rfl)) (by simp [e])
    · exact ev_eq (ev_neg e (ih (i + 1) (by omega))) (by simp [Ne.symm e])
theorem has_ev (l : List Int) (v : Int) (hn : l.length ≤ 9223372036854775807) : Ev (fun k => spec_l1Has.f k l v) (l.contains v) := by
  unfold spec_l1Has.f
  exact has_l l v hn l.length 0 (by omega)
end Go.Proofs.YtnknojpijmfefaaGreatDoor.UT
namespace Go.Proofs.YtnknojpijmfefaaGreatDoor.UB
open Go.RowKit Go.Proofs.YtnknojpijmfefaaGreatDoorW.PrintWords Go.Proofs.YtnknojpijmfefaaGreatDoorW.PrintMore Go.Proofs.YtnknojpijmfefaaGreatDoor.P Go.Proofs.YtnknojpijmfefaaGreatDoor.U Go.Proofs.YtnknojpijmfefaaGreatDoor.UT
set_option linter.unusedVariables false

theorem contains_rev (s : List Int) (n : Int) : s.reverse.contains n = s.contains n := by
  rw [Bool.eq_iff_iff]; simp
theorem good_l (h : Int) (l : List (List Int)) (hn : l.length ≤ 9223372036854775807) (hx : ∀ x, x ∈ l → x.length ≤ 1048576) : ∀ d i (s : List Int), i + d = l.length → s.length ≤ i * 1048576 → l.length ≤ 1048576 →
    Ev (fun k => spec_l9Good.l0 k s.reverse (i : Int) h l) ((chkRows h (l.drop i) s).isSome) := by
  intro d
  induction d with
  | zero =>
    intro i s hi hs _
    refine Ev.step (fun k => by simp only [spec_l9Good.l0]; rfl) ?_
    refine ev_neg (by omega) (ev_const ?_)
    rw [List.drop_of_length_le (by omega)]; rfl
  | succ d ih =>
    intro i s hi hs hll
    have hlt : i < l.length := by omega
    refine Ev.step (fun k => by simp only [spec_l9Good.l0]; rfl) ?_
    refine ev_pos (by omega) (ev_pos (by omega) ?_)
    rw [rd_l1 l i hlt, List.drop_eq_getElem_cons hlt]
    have hxi := hx _ (List.getElem_mem hlt)
    unfold chkRows
    by_cases hc : (l[i].length : Int) ≤ h
    · rw [if_pos hc]
      refine ev_neg (by omega) ?_
      have inner : ∀ e j (s : List Int), j + e = l[i].length → s.length ≤ i * 1048576 + j → Ev (fun k => spec_l9Good.l1 k s.reverse (i : Int) (j : Int) h l) (((chkRow (l[i].drop j) s).bind (chkRows h (l.drop (i + 1)))).isSome) := by
        intro e
        induction e with
        | zero =>
          intro j s hj hs
          refine Ev.step (fun k => by simp only [spec_l9Good.l1]; rfl) ?_
          refine ev_pos (by omega) (ev_pos (by omega) ?_)
          rw [rd_l1 l i hlt, wsucc hlt hn]
          refine ev_neg (by omega) ?_
          rw [List.drop_of_length_le (by omega)]
          exact ih (i + 1) s (by omega) (by omega) hll
        | succ e ihe =>
          intro j s hj hs
          have hjt : j < l[i].length := by omega
          refine Ev.step (fun k => by simp only [spec_l9Good.l1]; rfl) ?_
          refine ev_pos (by omega) (ev_pos (by omega) ?_)
          rw [rd_l1 l i hlt, rd_at _ j hjt, wsucc hjt (by omega), List.drop_eq_getElem_cons hjt]
          refine ev_pos (by omega) (ev_pos (by omega) ?_)
          refine ev_call (in_spec _ _ _) ?_
          cases h1 : inr l[i][j] 1 99
          · exact ev_eq (ev_neg (by simp) (ev_const rfl)) (by rw [chkRow_bad (by rw [h1]; rfl)]; rfl)
          refine ev_pos rfl ?_
          have hh := has_ev s.reverse l[i][j] (by rw [List.length_reverse]; omega)
          rw [contains_rev] at hh
          refine Ev.bind hh ?_
          cases h2 : s.contains l[i][j]
          · refine ev_neg (by simp) (ev_pos (by rw [List.length_reverse]; omega) ?_)
            rw [chkRow_ok (by rw [h1, h2]; rfl)]
            have e2 := ihe (j + 1) (l[i][j] :: s) (by omega) (by rw [List.length_cons]; omega)
            rw [List.reverse_cons] at e2
            exact e2
          · exact ev_eq (ev_pos rfl (ev_const rfl)) (by rw [chkRow_bad (by rw [h1, h2]; rfl)]; rfl)
      exact inner l[i].length 0 s (by omega) (Nat.le_trans hs (Nat.le_add_right _ _))
    · rw [if_neg hc]
      exact ev_pos (by omega) (ev_const rfl)
theorem good_spec (h : Int) (l : List (List Int)) (hn : l.length ≤ 1048576) (hx : ∀ x, x ∈ l → x.length ≤ 1048576) : Ev (fun k => spec_l9Good.f k h l) (okBay h l) := by
  unfold spec_l9Good.f okBay
  refine ev_call (in_spec _ _ _) ?_
  cases h1 : inr h 1 4
  · refine ev_neg (by simp) ?_
    refine Ev.step (fun k => by simp only [spec_l9Good.j0]; rfl) ?_
    exact ev_pos (by simp) (ev_const rfl)
  refine ev_pos rfl (ev_call (in_spec _ _ _) ?_)
  cases h2 : inr (l.length : Int) 1 5
  · refine Ev.step (fun k => by simp only [spec_l9Good.j0]; rfl) ?_
    exact ev_pos (by simp) (ev_const rfl)
  · refine Ev.step (fun k => by simp only [spec_l9Good.j0]; rfl) ?_
    exact ev_neg (by simp) (good_l h l (by omega) hx l.length 0 [] (by omega) (by simp) hn)
end Go.Proofs.YtnknojpijmfefaaGreatDoor.UB
namespace Go.Proofs.YtnknojpijmfefaaGreatDoor.UB
open Go.RowKit Go.Proofs.YtnknojpijmfefaaGreatDoorW.PrintWords Go.Proofs.YtnknojpijmfefaaGreatDoorW.PrintMore Go.Proofs.YtnknojpijmfefaaGreatDoor.P Go.Proofs.YtnknojpijmfefaaGreatDoor.U Go.Proofs.YtnknojpijmfefaaGreatDoor.UT
set_option linter.unusedVariables false

/-! A valid yard. -/
theorem chkRow_mem : ∀ (l s t : List Int), chkRow l s = some t → ∀ n, n ∈ l → inr n 1 99 = true
  | [], _, _, _, n, hn => by cases hn
  | x :: l, s, t, h, n, hn => by
    unfold chkRow at h
    split at h
    · rename_i hc
      rw [Bool.and_eq_true] at hc
      rcases List.mem_cons.mp hn with rfl | hn
      · exact hc.1
      · exact chkRow_mem l _ _ h n hn
    · cases h
theorem chkRows_mem (cap : Int) : ∀ (l : List (List Int)) (s t : List Int), chkRows cap l s = some t → ∀ x, x ∈ l → (x.length : Int) ≤ cap ∧ ∀ n, n ∈ x → inr n 1 99 = true
  | [], _, _, _, x, hx => by cases hx
  | r :: l, s, t, h, x, hx => by
    unfold chkRows at h
    split at h
    · rename_i hc
      cases h1 : chkRow r s with
      | none => rw [h1] at h; cases h
      | some u =>
        rw [h1] at h
        rcases List.mem_cons.mp hx with rfl | hx
        · exact ⟨hc, chkRow_mem _ _ _ h1⟩
        · exact chkRows_mem cap l _ _ h x hx
    · cases h
theorem rdl_mem {l : List (List Int)} {s : Int} (h0 : 0 ≤ s) (h1 : s < (l.length : Int)) : rd_L2 l s ∈ l := by
  obtain ⟨n, rfl⟩ := Int.eq_ofNat_of_zero_le h0
  have h : n < l.length := by omega
  rw [show rd_L2 l (n : Int) = l[n] from rd_l1 l n h]
  exact List.getElem_mem h

theorem okBay_mem {h : Int} {l : List (List Int)} (hb : okBay h l = true) : (1 ≤ l.length ∧ l.length ≤ 5) ∧ ∀ x, x ∈ l → x.length ≤ 4 ∧ ∀ n, n ∈ x → 1 ≤ n ∧ n ≤ 99 := by
  unfold okBay at hb
  simp only [Bool.and_eq_true, inr_iff] at hb
  obtain ⟨h1, h2, h3⟩ := hb
  obtain ⟨t, ht⟩ := Option.isSome_iff_exists.mp h3
  refine ⟨⟨by omega, by omega⟩, fun x hx => ?_⟩
  obtain ⟨h4, h5⟩ := chkRows_mem h l _ _ ht x hx
  exact ⟨by omega, fun n hn => inr_iff.mp (h5 n hn)⟩
end Go.Proofs.YtnknojpijmfefaaGreatDoor.UB
namespace Go.Proofs.YtnknojpijmfefaaGreatDoor.UB
open Go.RowKit Go.Proofs.YtnknojpijmfefaaGreatDoorW.PrintWords Go.Proofs.YtnknojpijmfefaaGreatDoorW.PrintMore Go.Proofs.YtnknojpijmfefaaGreatDoor.P Go.Proofs.YtnknojpijmfefaaGreatDoor.U Go.Proofs.YtnknojpijmfefaaGreatDoor.UT
set_option linter.unusedVariables false

theorem within_impl (a b c : Int) : impl_within.f a b c = some (inr a b c) := by
  unfold impl_within.f inr
  by_cases h : b ≤ a <;> simp [h]
def okRow (h : Int) (l : List (List Int)) (a : Int) : Bool := okBay h l && inr a 0 ((l.length : Int) - 1)
theorem okRow_in {h : Int} {l : List (List Int)} {a : Int} (hb : okRow h l a = true) : okBay h l = true ∧ 0 ≤ a ∧ a < (l.length : Int) := by
  unfold okRow at hb
  rw [Bool.and_eq_true, inr_iff] at hb
  exact ⟨hb.1, by omega, by omega⟩
theorem row_spec (h : Int) (l : List (List Int)) (hn : l.length ≤ 1048576) (hx : ∀ x, x ∈ l → x.length ≤ 1048576) (a : Int) : Ev (fun k => spec_l9Row.f k h l a) (okRow h l a) := by
  unfold spec_l9Row.f okRow
  refine Ev.bind (good_spec h l hn hx) ?_
  rw [wr (x := (l.length : Int) - 1) (by omega) (by omega)]
  cases okBay h l
  · exact ev_neg (by simp) (ev_const rfl)
  · exact ev_pos rfl (ev_call (in_spec _ _ _) (ev_const rfl))
theorem row_impl (h : Int) (l : List (List Int)) (hn : l.length ≤ 1048576) (a : Int) : impl_hasRow.f h l a = some (okRow h l a) := by
  unfold impl_hasRow.f okRow
  rw [show impl_IsValidBay.f h l = some (okBay h l) from rfl, Option.bind_some, wr (x := (l.length : Int) - 1) (by omega) (by omega)]
  cases okBay h l
  · rw [if_neg (by simp)]; rfl
  · rw [if_pos rfl, within_impl]; rfl
end Go.Proofs.YtnknojpijmfefaaGreatDoor.UB
namespace Go.Proofs.YtnknojpijmfefaaGreatDoor.UB
open Go.RowKit Go.Proofs.YtnknojpijmfefaaGreatDoorW.PrintWords Go.Proofs.YtnknojpijmfefaaGreatDoorW.PrintMore Go.Proofs.YtnknojpijmfefaaGreatDoor.P Go.Proofs.YtnknojpijmfefaaGreatDoor.U Go.Proofs.YtnknojpijmfefaaGreatDoor.UT
set_option linter.unusedVariables false

def idx (v : Int) : List Int → Nat → Int
  | [], _ => -1
  | x :: l, i => if x = v then (i : Int) else idx v l (i + 1)
theorem idx_lo (v : Int) : ∀ (l : List Int) (i : Nat), idx v l i = -1 ∨ (i : Int) ≤ idx v l i
  | [], _ => .inl rfl
  | x :: l, i => by
    unfold idx
    split
    · exact .inr (Int.le_refl _)
    · rcases idx_lo v l (i + 1) with h | h
      · exact .inl h
      · exact .inr (by omega)
def find (v : Int) : List (List Int) → Nat → Int × Int
  | [], _ => (-1, -1)
  | x :: l, i => if 0 ≤ idx v x 0 then ((i : Int), idx v x 0) else find v l (i + 1)
theorem find_spec (h v : Int) (l : List (List Int)) (hn : l.length ≤ 1048576) (hx : ∀ x, x ∈ l → x.length ≤ 1048576) : ∀ d i, i + d = l.length → Ev (fun k => spec_l9Find.l0 k v (i : Int) h l) (find v (l.drop i) i) := by
  intro d
  induction d with
  | zero =>
    intro i hi
    refine Ev.step (fun k => by simp only [spec_l9Find.l0]; rfl) ?_
    refine ev_neg (by omega) (ev_const ?_)
    rw [List.drop_of_length_le (by omega)]; rfl
  | succ d ih =>
    intro i hi
    have hlt : i < l.length := by omega
    have hxi := hx _ (List.getElem_mem hlt)
    refine Ev.step (fun k => by simp only [spec_l9Find.l0]; rfl) ?_
    refine ev_pos (by omega) ?_
    rw [List.drop_eq_getElem_cons hlt]
    have inner : ∀ e j, j + e = l[i].length → Ev (fun k => spec_l9Find.l1 k v (i : Int) (j : Int) h l) (if 0 ≤ idx v (l[i].drop j) j then ((i : Int), idx v (l[i].drop j) j) else find v (l.drop (i + 1)) (i + 1)) := by
      intro e
      induction e with
      | zero =>
        intro j hj
        refine Ev.step (fun k => by simp only [spec_l9Find.l1]; rfl) ?_
        refine ev_pos (by omega) (ev_pos (by omega) ?_)
        rw [rd_l1 l i hlt, wsucc hlt (by omega), List.drop_of_length_le (show l[i].length ≤ j by omega)]
        refine ev_neg (by omega) ?_
        exact ev_eq (ih (i + 1) (by omega)) (by simp [idx])
      | succ e ihe =>
        intro j hj
        have hjt : j < l[i].length := by omega
        refine Ev.step (fun k => by simp only [spec_l9Find.l1]; rfl) ?_
        refine ev_pos (by omega) (ev_pos (by omega) ?_)
        rw [rd_l1 l i hlt, rd_at _ j hjt, wsucc hjt (by omega), List.drop_eq_getElem_cons hjt]
        refine ev_pos (by omega) (ev_pos (by omega) ?_)
        unfold idx
        by_cases e1 : l[i][j] = v
        · rw [if_pos e1, if_pos (by omega)]
          exact ev_pos e1 (ev_const rfl)
        · rw [if_neg e1]
          exact ev_neg e1 (ihe (j + 1) (by omega))
    unfold find
    exact inner l[i].length 0 (by omega)
theorem index_l (l : List Int) (v : Int) (hn : l.length ≤ 1048576) : ∀ d i, i + d = l.length → Ev (fun k => slices_Index_int_int.l0 k l v (l.length : Int) (i : Int)) (idx v (l.drop i) i) := by
  intro d
  induction d with
  | zero =>
    intro i hi
    refine Ev.step (fun k => by simp only [slices_Index_int_int.l0]; rfl) ?_
    refine ev_neg (by omega) (ev_const ?_)
    rw [List.drop_of_length_le (by omega)]; rfl
  | succ d ih =>
    intro i hi
    have hlt : i < l.length := by omega
    refine Ev.step (fun k => by simp only [slices_Index_int_int.l0]; rfl) ?_
    rw [rd_at l i hlt, wsucc hlt (by omega), List.drop_eq_getElem_cons hlt]
    refine ev_pos (by omega) (ev_pos (by omega) (ev_pos (by omega) ?_))
    unfold idx
    by_cases e : l[i] = v
    · rw [if_pos e]; exact ev_pos e.symm (ev_const rfl)
    · rw [if_neg e]; exact ev_neg (Ne.symm e) (ih (i + 1) (by omega))
theorem index_ev (l : List Int) (v : Int) (hn : l.length ≤ 1048576) : Ev (fun k => slices_Index_int_int.f k l v) (idx v l 0) := by
  unfold slices_Index_int_int.f
  exact index_l l v hn l.length 0 (by omega)
theorem find_impl (v : Int) (l : List (List Int)) (hn : l.length ≤ 1048576) (hx : ∀ x, x ∈ l → x.length ≤ 1048576) : ∀ d i, i + d = l.length → Ev (fun k => impl_placeOf.l0 k v l (l.length : Int) (i : Int)) (find v (l.drop i) i) := by
  intro d
  induction d with
  | zero =>
    intro i hi
    refine Ev.step (fun k => by simp only [impl_placeOf.l0]; rfl) ?_
    refine ev_neg (by omega) (ev_const ?_)
    rw [List.drop_of_length_le (by omega)]; rfl
  | succ d ih =>
    intro i hi
    have hlt : i < l.length := by omega
    refine Ev.step (fun k => by simp only [impl_placeOf.l0]; rfl) ?_
    rw [rd_l1 l i hlt, wsucc hlt (by omega), List.drop_eq_getElem_cons hlt]
    refine ev_pos (by omega) (ev_pos (by omega) (ev_pos (by omega) ?_))
    refine Ev.bind (index_ev _ _ (hx _ (List.getElem_mem hlt))) ?_
    unfold find
    by_cases e : 0 ≤ idx v l[i] 0
    · rw [if_pos e]; exact ev_pos e (ev_const rfl)
    · rw [if_neg e]; exact ev_neg e (ih (i + 1) (by omega))
end Go.Proofs.YtnknojpijmfefaaGreatDoor.UB
namespace Go.Proofs.YtnknojpijmfefaaGreatDoor.UB
open Go.RowKit Go.Proofs.YtnknojpijmfefaaGreatDoorW.PrintWords Go.Proofs.YtnknojpijmfefaaGreatDoorW.PrintMore Go.Proofs.YtnknojpijmfefaaGreatDoor.P Go.Proofs.YtnknojpijmfefaaGreatDoor.U Go.Proofs.YtnknojpijmfefaaGreatDoor.UT
set_option linter.unusedVariables false

/-- The last number of a row, and the row without it. -/
def top (r : List Int) : Int := rd r ((r.length : Int) - 1)
def cutR (l : List (List Int)) (a : Int) : List (List Int) := l.set a.toNat ((rd_L2 l a).take ((rd_L2 l a).length - 1))
theorem cutR_len (l : List (List Int)) (a : Int) : (cutR l a).length = l.length := by simp [cutR]
theorem cutR_rows {l : List (List Int)} {a : Int} {c : Nat} (h : ∀ x, x ∈ l → x.length ≤ c) (h0 : 0 ≤ a) (h1 : a < (l.length : Int)) : ∀ x, x ∈ cutR l a → x.length ≤ c := by
  intro x hx
  rcases List.mem_or_eq_of_mem_set hx with h2 | rfl
  · exact h x h2
  · rw [List.length_take]; have := h _ (rdl_mem h0 h1); omega
theorem wlast {n : Nat} (h : 0 < n) (hn : n ≤ 1048576) : wrap64 ((n : Int) - 1) = (n : Int) - 1 ∧ ((n : Int) - 1).toNat = n - 1 := ⟨wr (by omega) (by omega), by omega⟩
theorem top_impl (r : List Int) (h : 0 < r.length) (hn : r.length ≤ 1048576) : impl_topOf.f r = some (top r) := by
  unfold impl_topOf.f top
  rw [(wlast h hn).1, if_neg (by omega), if_pos (by omega), if_pos (by omega)]
end Go.Proofs.YtnknojpijmfefaaGreatDoor.UB
namespace Go.Proofs.YtnknojpijmfefaaGreatDoor.UB
open Go.RowKit Go.Proofs.YtnknojpijmfefaaGreatDoorW.PrintWords Go.Proofs.YtnknojpijmfefaaGreatDoorW.PrintMore Go.Proofs.YtnknojpijmfefaaGreatDoor.P Go.Proofs.YtnknojpijmfefaaGreatDoor.U Go.Proofs.YtnknojpijmfefaaGreatDoor.UT
set_option linter.unusedVariables false

/-! A copy. -/
theorem own1_spec (l : List Int) (hn : l.length ≤ 1048576) : spec_l1Own.f l = some l := by
  unfold spec_l1Own.f
  show (if ([] : List Int).length + l.length < 17592186044416 then some ([] ++ l) else none) = some l
  rw [if_pos (by simp; omega)]; rfl
theorem own1_impl (l : List Int) (hn : l.length ≤ 1048576) : slices_Clone_int_int.f l = some l := by
  unfold slices_Clone_int_int.f
  rw [if_pos (by omega)]
theorem own_spec_l (h : Int) (l : List (List Int)) (hn : l.length ≤ 1048576) (hx : ∀ x, x ∈ l → x.length ≤ 1048576) : ∀ d i, i + d = l.length → Ev (fun k => spec_l9Own.l0 k (i : Int) h l h (l.take i)) (h, l) := by
  intro d
  induction d with
  | zero =>
    intro i hi
    refine Ev.step (fun k => by simp only [spec_l9Own.l0]; rfl) (ev_neg (by omega) (ev_const ?_))
    rw [List.take_of_length_le (by omega)]
  | succ d ih =>
    intro i hi
    have hlt : i < l.length := by omega
    refine Ev.step (fun k => by simp only [spec_l9Own.l0]; rfl) (ev_pos (by omega) (ev_pos (by omega) ?_))
    rw [rd_l1 l i hlt, wsucc hlt (by omega)]
    refine ev_call (own1_spec _ (hx _ (List.getElem_mem hlt))) (ev_pos (by rw [List.length_take]; omega) ?_)
    have h := ih (i + 1) (by omega)
    rw [List.take_succ_eq_append_getElem hlt] at h
    exact h
theorem own_spec (h : Int) (l : List (List Int)) (hn : l.length ≤ 1048576) (hx : ∀ x, x ∈ l → x.length ≤ 1048576) : Ev (fun k => spec_l9Own.f k h l) (h, l) := by
  unfold spec_l9Own.f
  exact own_spec_l h l hn hx l.length 0 (by omega)
theorem own_impl_l (h : Int) (l : List (List Int)) (hn : l.length ≤ 1048576) (hx : ∀ x, x ∈ l → x.length ≤ 1048576) : ∀ d i, i + d = l.length → Ev (fun k => impl_ownBay.l0 k l (l.length : Int) (i : Int) h (l.take i)) (h, l) := by
  intro d
  induction d with
  | zero =>
    intro i hi
    refine Ev.step (fun k => by simp only [impl_ownBay.l0]; rfl) (ev_neg (by omega) (ev_const ?_))
    rw [List.take_of_length_le (by omega)]
  | succ d ih =>
    intro i hi
    have hlt : i < l.length := by omega
    refine Ev.step (fun k => by simp only [impl_ownBay.l0]; rfl) (ev_pos (by omega) (ev_pos (by omega) (ev_pos (by omega) ?_)))
    rw [rd_l1 l i hlt, wsucc hlt (by omega)]
    refine ev_call (own1_impl _ (hx _ (List.getElem_mem hlt))) (ev_pos (by rw [List.length_take]; omega) ?_)
    have h := ih (i + 1) (by omega)
    rw [List.take_succ_eq_append_getElem hlt] at h
    exact h
theorem own_impl (h : Int) (l : List (List Int)) (hn : l.length ≤ 1048576) (hx : ∀ x, x ∈ l → x.length ≤ 1048576) : Ev (fun k => impl_ownBay.f k h l) (h, l) := by
  unfold impl_ownBay.f
  exact own_impl_l h l hn hx l.length 0 (by omega)
end Go.Proofs.YtnknojpijmfefaaGreatDoor.UB
namespace Go.Proofs.YtnknojpijmfefaaGreatDoor.UB
open Go.RowKit Go.Proofs.YtnknojpijmfefaaGreatDoorW.PrintWords Go.Proofs.YtnknojpijmfefaaGreatDoorW.PrintMore Go.Proofs.YtnknojpijmfefaaGreatDoor.P Go.Proofs.YtnknojpijmfefaaGreatDoor.U Go.Proofs.YtnknojpijmfefaaGreatDoor.UT
set_option linter.unusedVariables false

def push (l : List (List Int)) (s n : Int) : List (List Int) := l.set s.toNat (rd_L2 l s ++ [n])
theorem push_len (l : List (List Int)) (s n : Int) : (push l s n).length = l.length := by simp [push]
theorem push_mem {l : List (List Int)} {s n : Int} {x : List Int} (h : x ∈ push l s n) : x ∈ l ∨ x = rd_L2 l s ++ [n] := List.mem_or_eq_of_mem_set h
theorem push_rows {l : List (List Int)} {s n : Int} {c : Nat} (h : ∀ x, x ∈ l → x.length ≤ c) (h0 : 0 ≤ s) (h1 : s < (l.length : Int)) : ∀ x, x ∈ push l s n → x.length ≤ c + 1 := by
  intro x hx
  rcases push_mem hx with h2 | rfl
  · exact Nat.le_succ_of_le (h x h2)
  · rw [List.length_append, List.length_singleton]
    exact Nat.succ_le_succ (h _ (rdl_mem h0 h1))
end Go.Proofs.YtnknojpijmfefaaGreatDoor.UB
namespace Go.Proofs.YtnknojpijmfefaaGreatDoor.UB
open Go.RowKit Go.Proofs.YtnknojpijmfefaaGreatDoorW.PrintWords Go.Proofs.YtnknojpijmfefaaGreatDoorW.PrintMore Go.Proofs.YtnknojpijmfefaaGreatDoor.P Go.Proofs.YtnknojpijmfefaaGreatDoor.U Go.Proofs.YtnknojpijmfefaaGreatDoor.UT
set_option linter.unusedVariables false

def Bt (l : List UInt8) : ByteArray := ⟨l.toArray⟩
theorem bt_app (a b : List UInt8) : Bt a ++ Bt b = Bt (a ++ b) := by
  apply ByteArray.ext
  simp [Bt]
theorem bt_size (a : List UInt8) : (Bt a).size = a.length := by simp [Bt, ByteArray.size]
theorem bt_dig : ∀ d, d < 10 → (⟨#[48, 49, 50, 51, 52, 53, 54, 55, 56, 57]⟩ : ByteArray).extract d (d + 1) = Bt [(48 + d).toUInt8] := by decide +kernel
theorem b32 : (⟨#[32]⟩ : ByteArray) = Bt [32] := rfl
theorem b46 : (⟨#[46, 46]⟩ : ByteArray) = Bt [46, 46] := rfl
theorem b10 : (⟨#[10]⟩ : ByteArray) = Bt [10] := rfl
theorem quo10 (m : Nat) (hm : m < 100) : wrap64 (Int.tdiv (m : Int) 10) = ((m / 10 : Nat) : Int) := by
  rw [show Int.tdiv (m : Int) 10 = (m : Int) / 10 from Int.tdiv_eq_ediv_of_nonneg (by omega), wr (by omega) (by omega)]
  omega
theorem rem10 (m : Nat) : Int.tmod (m : Int) 10 = ((m % 10 : Nat) : Int) := by
  rw [show Int.tmod (m : Int) 10 = (m : Int) % 10 from Int.tmod_eq_emod_of_nonneg (by omega)]
  omega
theorem part_data (t : Nat) (row : List Int) : (btPart t row).data.toList = if t < row.length then btPd (row.getD t 0) else [46, 46] := by
  unfold btPart
  split <;> rfl
theorem part_len (t : Nat) (row : List Int) : (btPart t row).data.toList.length = 2 := by
  rw [part_data]
  split <;> rfl
/-- A line, row by row. -/
def ln (t : Nat) : List (List Int) → Nat → List UInt8
  | [], _ => []
  | r :: rs, i => ((if 0 < i then [32] else []) ++ (btPart t r).data.toList) ++ ln t rs (i + 1)
theorem ln_tail (t : Nat) : ∀ (rs : List (List Int)) (i : Nat), ln t rs (i + 1) = Go.Lib.joinTail [32] ((rs.map (btPart t)).map (·.data.toList))
  | [], _ => rfl
  | r :: rs, i => by
    rw [ln, if_pos (by omega), ln_tail t rs (i + 1)]
    simp [Go.Lib.joinTail]
theorem ln_join (t : Nat) (rows : List (List Int)) : ln t rows 0 = Go.Lib.join ((rows.map (btPart t)).map (·.data.toList)) [32] := by
  cases rows with
  | nil => rfl
  | cons r rs => rw [ln, if_neg (by omega), ln_tail, List.map_cons, List.map_cons, Go.Lib.join_cons, List.nil_append]
theorem ln_len (t : Nat) : ∀ (rs : List (List Int)) (i : Nat), (ln t rs i).length ≤ 3 * rs.length
  | [], _ => by simp [ln]
  | r :: rs, i => by
    have h1 := ln_len t rs (i + 1)
    have h2 := part_len t r
    rw [ln, List.length_append, List.length_append, h2, List.length_cons]
    split <;> simp <;> omega
theorem btLine_eq (rows : List (List Int)) (t : Nat) : btLine rows t = ln t rows 0 ++ [10] := by rw [ln_join]; rfl
theorem btT_len (rows : List (List Int)) (h5 : rows.length ≤ 5) : ∀ n, (btT rows n).length ≤ 16 * n
  | 0 => by simp [btT]
  | n + 1 => by
    have h1 := btT_len rows h5 n
    have h2 := ln_len n rows 0
    rw [btT, btLine_eq, List.length_append, List.length_append, List.length_singleton]
    omega
theorem text_row {rows : List (List Int)} (hn : rows.length ≤ 5) (hm : ∀ x, x ∈ rows → x.length ≤ 4 ∧ ∀ n, n ∈ x → 1 ≤ n ∧ n ≤ 99) (h : Int) (t : Nat) (ht : t ≤ 10) (T : List UInt8) (hT : T.length ≤ 1000000)
    (ih : ∀ acc, acc ++ btT rows t = T → Ev (fun k => spec_l9Text.l0 k (Bt acc) ((t : Int) - 1) h rows) (Bt T)) : ∀ d i (acc : List UInt8), i + d = rows.length → acc ++ ((ln t (rows.drop i) i ++ [10]) ++ btT rows t) = T →
      Ev (fun k => spec_l9Text.l1 k (Bt acc) (t : Int) (i : Int) h rows) (Bt T) := by
  intro d
  induction d with
  | zero =>
    intro i acc hi he
    have hal : acc.length ≤ 1000000 := by rw [← he, List.length_append] at hT; omega
    refine Ev.step (fun k => by simp only [spec_l9Text.l1]; rfl) (ev_neg (by omega) ?_)
    simp only [b10, bt_size, bt_app]
    rw [wr (x := (t : Int) - 1) (by omega) (by omega)]
    refine ev_pos (by omega) (ih _ ?_)
    rw [← he, List.drop_of_length_le (by omega), ln, List.nil_append, List.append_assoc]
  | succ d ihd =>
    intro i acc hi he
    have hlt : i < rows.length := by omega
    have hal : acc.length ≤ 1000000 := by rw [← he, List.length_append] at hT; omega
    have hrow := hm _ (List.getElem_mem hlt)
    rw [List.drop_eq_getElem_cons hlt, ln] at he
    refine Ev.step (fun k => by simp only [spec_l9Text.l1]; rfl) (ev_pos (by omega) ?_)
    rw [rd_l1 rows i hlt, wsucc hlt (by omega)]
    have go : ∀ acc2, acc2 = acc ++ ((if 0 < i then [32] else []) ++ (btPart t rows[i]).data.toList) → Ev (fun k => spec_l9Text.l1 k (Bt acc2) (t : Int) ((i + 1 : Nat) : Int) h rows) (Bt T) := by
      intro acc2 h2
      refine ihd (i + 1) acc2 (by omega) ?_
      rw [h2, ← he]
      simp only [List.append_assoc]
    rw [part_data] at go
    by_cases hs : t < rows[i].length
    · have hmem := hrow.2 rows[i][t] (List.getElem_mem hs)
      rw [if_pos hs, getD_at _ _ _ hs] at go
      obtain ⟨m, hmv⟩ := Int.eq_ofNat_of_zero_le (show 0 ≤ rows[i][t] by omega)
      rw [rd_at _ t hs]
      rw [hmv] at hmem go ⊢
      have hm100 : m < 100 := by omega
      rw [quo10 m hm100, rem10 m, wsucc (n := 10) (show m / 10 < 10 by omega) (by omega), wsucc (n := 10) (show m % 10 < 10 by omega) (by omega)]
      simp only [Int.toNat_natCast, bt_dig (m / 10) (by omega), bt_dig (m % 10) (by omega), b32, b46, bt_app, bt_size]
      unfold btPd at go
      rw [Int.toNat_natCast] at go
      by_cases hz : 0 < i
      · rw [if_pos hz] at go
        refine ev_pos (by omega) (ev_pos (by simp; omega) (ev_pos (by omega) (ev_neg (by omega) (ev_pos (by omega) (ev_pos (by omega) (ev_pos (by omega) (ev_pos (by omega) (ev_pos (by omega) (ev_pos (by simp; omega) (ev_pos (by omega) (ev_pos (by omega) (ev_pos (by omega) (ev_pos (by simp; omega) (go _ ?_))))))))))))))
        simp
      · rw [if_neg hz] at go
        refine ev_neg (by omega) (ev_pos (by omega) (ev_neg (by omega) (ev_pos (by omega) (ev_pos (by omega) (ev_pos (by omega) (ev_pos (by omega) (ev_pos (by omega) (ev_pos (by simp; omega) (ev_pos (by omega) (ev_pos (by omega) (ev_pos (by omega) (ev_pos (by simp; omega) (go _ ?_)))))))))))))
        simp
    · rw [if_neg hs] at go
      simp only [b32, b46, bt_app, bt_size]
      by_cases hz : 0 < i
      · rw [if_pos hz] at go
        refine ev_pos (by omega) (ev_pos (by simp; omega) (ev_pos (by omega) (ev_pos (by omega) (ev_pos (by simp; omega) (go _ ?_)))))
        simp
      · rw [if_neg hz] at go
        refine ev_neg (by omega) (ev_pos (by omega) (ev_pos (by omega) (ev_pos (by simp; omega) (go _ ?_))))
        simp
theorem text_all {rows : List (List Int)} (hn : rows.length ≤ 5) (hm : ∀ x, x ∈ rows → x.length ≤ 4 ∧ ∀ n, n ∈ x → 1 ≤ n ∧ n ≤ 99) (h : Int) (T : List UInt8) (hT : T.length ≤ 1000000) : ∀ t, t ≤ 10 → ∀ acc, acc ++ btT rows t = T →
      Ev (fun k => spec_l9Text.l0 k (Bt acc) ((t : Int) - 1) h rows) (Bt T) := by
  intro t
  induction t with
  | zero =>
    intro ht acc he
    rw [btT, List.append_nil] at he
    subst he
    exact Ev.step (fun k => by simp only [spec_l9Text.l0]; rfl) (ev_neg (by omega) (ev_const rfl))
  | succ t ih =>
    intro ht acc he
    rw [show ((t + 1 : Nat) : Int) - 1 = (t : Int) by omega]
    refine Ev.step (fun k => by simp only [spec_l9Text.l0]; rfl) (ev_pos (by omega) ?_)
    refine text_row hn hm h t (by omega) T hT (ih (by omega)) rows.length 0 acc (by omega) ?_
    rw [List.drop_zero, ← btLine_eq, ← he, btT]
end Go.Proofs.YtnknojpijmfefaaGreatDoor.UB
namespace Go.Proofs.YtnknojpijmfefaaGreatDoor.PB
open Go.RowKit Go.Proofs.YtnknojpijmfefaaGreatDoorW.PrintWords Go.Proofs.YtnknojpijmfefaaGreatDoorW.PrintMore Go.Proofs.YtnknojpijmfefaaGreatDoor.P Go.Proofs.YtnknojpijmfefaaGreatDoor.U Go.Proofs.YtnknojpijmfefaaGreatDoor.UB
set_option linter.unusedVariables false
def spa (c : UInt8) : List UInt8 → List UInt8 → List (List UInt8)
  | acc, [] => [acc]
  | acc, x :: xs => if x = c then acc :: spa c [] xs else spa c (acc ++ [x]) xs
theorem spa_app (c : UInt8) : ∀ (a acc b : List UInt8), c ∉ a → spa c acc (a ++ b) = spa c (acc ++ a) b
  | [], acc, b, _ => by rw [List.nil_append, List.append_nil]
  | x :: a, acc, b, h => by
    rw [List.cons_append, spa, if_neg (fun e => h (by rw [e]; exact List.mem_cons_self)), spa_app c a (acc ++ [x]) b (fun e => h (List.mem_cons_of_mem _ e)), List.append_assoc]
    rfl
theorem spa_line (c : UInt8) (a acc b : List UInt8) (h : c ∉ a) : spa c acc (a ++ c :: b) = (acc ++ a) :: spa c [] b := by
  rw [spa_app c a acc _ h, spa, if_pos rfl]
theorem spa_end (c : UInt8) (a acc : List UInt8) (h : c ∉ a) : spa c acc a = [acc ++ a] := by
  have h1 := spa_app c a acc [] h
  rw [List.append_nil] at h1
  rw [h1]; rfl
theorem spa_size (c : UInt8) : ∀ (s acc : List UInt8), ∀ x, x ∈ spa c acc s → x.length ≤ acc.length + s.length
  | [], acc, x, h => by
    rw [spa, List.mem_singleton] at h
    rw [h]; simp
  | y :: s, acc, x, h => by
    rw [spa] at h
    split at h
    · rcases List.mem_cons.1 h with rfl | h
      · simp
      · have := spa_size c s [] x h; simp at this ⊢; omega
    · have := spa_size c s _ x h; simp at this ⊢; omega
theorem spa_len (c : UInt8) : ∀ (s acc : List UInt8), 1 ≤ (spa c acc s).length ∧ (spa c acc s).length ≤ s.length + 1
  | [], acc => by simp [spa]
  | y :: s, acc => by
    rw [spa]
    split
    · have := spa_len c s []; simp; omega
    · have := spa_len c s (acc ++ [y]); simp; omega
theorem index_mid (c : UInt8) : ∀ (a l : List UInt8), c ∉ a → Go.Lib.index (a ++ c :: l) [c] = (a.length : Int)
  | [], l, _ => by rw [List.nil_append, Go.Lib.index]; simp [List.isPrefixOf]
  | b :: a, l, h => by
    have hb : b ≠ c := fun e => h (by rw [e]; exact List.mem_cons_self)
    have ih := index_mid c a l (fun e => h (List.mem_cons_of_mem _ e))
    have hp : ([c] : List UInt8).isPrefixOf (b :: (a ++ c :: l)) = false := by simp [List.isPrefixOf, Ne.symm hb]
    have hix : Go.Lib.index (b :: (a ++ c :: l)) [c] = if Go.Lib.index (a ++ c :: l) [c] == -1 then -1 else Go.Lib.index (a ++ c :: l) [c] + 1 := by rw [Go.Lib.index, hp]; simp
    rw [List.cons_append, hix, ih, if_neg (by simp), List.length_cons]
    omega
theorem splitK_spa (c : UInt8) : ∀ (s acc : List UInt8), c ∉ acc → Go.Lib.splitK [c] 0 ((acc ++ s).count c) (acc ++ s) = spa c acc s
  | [], acc, h => by
    rw [List.append_nil, List.count_eq_zero.mpr h]; rfl
  | x :: xs, acc, h => by
    rw [spa]
    by_cases e : x = c
    · subst e
      have ih := splitK_spa x xs [] (by simp)
      rw [List.nil_append] at ih
      rw [if_pos rfl, ← ih, List.count_append, List.count_eq_zero.mpr h, List.count_cons_self, Nat.zero_add, Go.Lib.splitK, index_mid x acc xs h, if_neg (by simp), Int.toNat_natCast, Nat.add_zero, List.take_left]
      rw [show (acc ++ x :: xs).drop (acc.length + [x].length) = xs by rw [List.length_singleton, ← List.drop_drop, List.drop_left]; rfl]
    · have ih := splitK_spa c xs (acc ++ [x]) (by rw [List.mem_append]; rintro (h2 | h2); exact h h2; exact e (List.mem_singleton.1 h2).symm)
      rw [List.append_assoc] at ih
      rw [if_neg e, ← ih]; rfl
theorem bt_data (b : ByteArray) : Bt b.data.toList = b := by
  apply ByteArray.ext
  simp [Bt]
theorem wordsB_spa (s : ByteArray) (c : UInt8) : wordsB s c = (spa c [] s.data.toList).map Bt := by
  have h1 := Go.Lib.splitB_data ⟨#[c]⟩ 0 (Go.Lib.countB s ⟨#[c]⟩) s
  have h2 := splitK_spa c s.data.toList [] (by simp)
  rw [List.nil_append, ← Go.Lib.count_one] at h2
  have h3 : (wordsB s c).map (·.data.toList) = spa c [] s.data.toList := h1.trans h2
  rw [← h3, List.map_map]
  conv => lhs; rw [← List.map_id (wordsB s c)]
  exact List.map_congr_left (fun b _ => (bt_data b).symm)
theorem seg (s : ByteArray) (a b : Nat) : s.extract a b = Bt ((s.data.toList.take b).drop a) := by
  rw [← bt_data (s.extract a b), Go.Lib.extract_data]
  rw [List.drop_take]
end Go.Proofs.YtnknojpijmfefaaGreatDoor.PB
namespace Go.Proofs.YtnknojpijmfefaaGreatDoor.PB
open Go.RowKit Go.Proofs.YtnknojpijmfefaaGreatDoorW.PrintWords Go.Proofs.YtnknojpijmfefaaGreatDoorW.PrintMore Go.Proofs.YtnknojpijmfefaaGreatDoor.P Go.Proofs.YtnknojpijmfefaaGreatDoor.U Go.Proofs.YtnknojpijmfefaaGreatDoor.UT Go.Proofs.YtnknojpijmfefaaGreatDoor.UB
set_option linter.unusedVariables false
theorem tl_bt (l : List UInt8) : (Bt l).data.toList = l := by simp [Bt]
theorem dig_no : ∀ d, d < 10 → (48 + d).toUInt8 ≠ 10 ∧ (48 + d).toUInt8 ≠ 32 ∧ (48 + d).toUInt8 ≠ 46 := by decide
def Rok (rows : List (List Int)) : Prop := ∀ x, x ∈ rows → x.length ≤ 4 ∧ ∀ n, n ∈ x → 1 ≤ n ∧ n ≤ 99
theorem row_at {r : List Int} (h : ∀ n, n ∈ r → 1 ≤ n ∧ n ≤ 99) {t : Nat} (ht : t < r.length) : ∃ m : Nat, r.getD t 0 = (m : Int) ∧ 1 ≤ m ∧ m ≤ 99 := by
  rw [getD_at _ _ _ ht]
  have h1 := h _ (List.getElem_mem ht)
  exact ⟨(r[t]).toNat, by omega, by omega, by omega⟩
theorem part_no {r : List Int} (h : ∀ n, n ∈ r → 1 ≤ n ∧ n ≤ 99) (t : Nat) : (10 : UInt8) ∉ (btPart t r).data.toList ∧ (32 : UInt8) ∉ (btPart t r).data.toList := by
  rw [part_data]
  split
  case isTrue ht =>
    obtain ⟨m, e, h1, h2⟩ := row_at h ht
    rw [e, btPd, Int.toNat_natCast]
    have a := dig_no (m / 10) (by omega)
    have b := dig_no (m % 10) (by omega)
    simp only [List.mem_cons, List.not_mem_nil, or_false, not_or]
    exact ⟨⟨a.1.symm, b.1.symm⟩, a.2.1.symm, b.2.1.symm⟩
  case isFalse ht => exact ⟨by decide, by decide⟩
theorem ln_no (t : Nat) : ∀ (rs : List (List Int)) (i : Nat), Rok rs → (10 : UInt8) ∉ ln t rs i
  | [], _, _ => by simp [ln]
  | r :: rs, i, h => by
    have h1 := ln_no t rs (i + 1) (fun x hx => h x (List.mem_cons_of_mem _ hx))
    have h2 := (part_no (h r List.mem_cons_self).2 t).1
    rw [ln]
    intro hc
    rcases List.mem_append.1 hc with hc | hc
    · rcases List.mem_append.1 hc with hc | hc
      · split at hc
        · exact absurd (List.mem_singleton.1 hc) (by decide)
        · cases hc
      · exact h2 hc
    · exact h1 hc
def LT (rows : List (List Int)) : Nat → List (List UInt8)
  | 0 => []
  | n + 1 => ln n rows 0 :: LT rows n
theorem LT_length (rows : List (List Int)) : ∀ n, (LT rows n).length = n
  | 0 => rfl
  | n + 1 => by rw [LT, List.length_cons, LT_length rows n]
theorem spa_text {rows : List (List Int)} (h : Rok rows) : ∀ n, spa 10 [] (btT rows n) = LT rows n ++ [[]]
  | 0 => rfl
  | n + 1 => by
    rw [btT, btLine_eq, List.append_assoc, List.singleton_append, spa_line 10 _ [] _ (ln_no n rows 0 h), spa_text h n]
    rfl
theorem spa_words_tail (t : Nat) : ∀ (rs : List (List Int)) (i : Nat) (acc : List UInt8), Rok rs → 0 < i → spa 32 acc (ln t rs i) = acc :: rs.map (fun r => (btPart t r).data.toList)
  | [], _, acc, _, _ => rfl
  | r :: rs, i, acc, h, hi => by
    rw [ln, if_pos hi, List.append_assoc, List.singleton_append, spa, if_pos rfl, spa_app 32 _ [] _ (part_no (h r List.mem_cons_self).2 t).2, spa_words_tail t rs (i + 1) _ (fun x hx => h x (List.mem_cons_of_mem _ hx)) (by omega)]
    rfl
theorem spa_words (t : Nat) {rows : List (List Int)} (h : Rok rows) (hn : rows ≠ []) : (spa 32 [] (ln t rows 0)).map Bt = rows.map (btPart t) := by
  cases rows with
  | nil => exact absurd rfl hn
  | cons r rs =>
    rw [ln, if_neg (by omega), List.nil_append, spa_app 32 _ [] _ (part_no (h r List.mem_cons_self).2 t).2, spa_words_tail t rs 1 _ (fun x hx => h x (List.mem_cons_of_mem _ hx)) (by omega), List.nil_append, List.map_cons, List.map_map, bt_data, List.map_cons]
    exact congrArg _ (List.map_congr_left (fun b _ => bt_data _))
def RT (rows : List (List Int)) : Nat → Nat → List (List UInt8)
  | _, 0 => []
  | t, d + 1 => ln t rows 0 :: RT rows (t + 1) d
theorem RT_snoc (rows : List (List Int)) : ∀ d t, RT rows t (d + 1) = RT rows t d ++ [ln (t + d) rows 0]
  | 0, t => rfl
  | d + 1, t => by
    rw [RT, RT_snoc rows d (t + 1), RT, show t + 1 + d = t + (d + 1) by omega]
    rfl
theorem LT_rev (rows : List (List Int)) : ∀ n, (LT rows n).reverse = RT rows 0 n
  | 0 => rfl
  | n + 1 => by rw [LT, List.reverse_cons, LT_rev rows n, RT_snoc, Nat.zero_add]
theorem part_dots {r : List Int} (h : ∀ n, n ∈ r → 1 ≤ n ∧ n ≤ 99) (t : Nat) : (btPart t r).data.toList = [46, 46] ↔ ¬ t < r.length := by
  rw [part_data]
  split
  case isTrue ht =>
    obtain ⟨m, e, h1, h2⟩ := row_at h ht
    rw [e, btPd, Int.toNat_natCast]
    constructor
    · intro hc
      injection hc with hc
      exact absurd hc (dig_no (m / 10) (by omega)).2.2
    · intro hc; exact absurd ht hc
  case isFalse ht => exact ⟨fun _ => ht, fun _ => rfl⟩
theorem part_size (t : Nat) (r : List Int) : (btPart t r).size = 2 := part_len t r
theorem put_at (pre : List (List Int)) (x y : List Int) (suf : List (List Int)) : (pre ++ x :: suf).set pre.length y = pre ++ y :: suf := by simp
theorem get_at (pre : List (List Int)) (x : List Int) (suf : List (List Int)) : (pre ++ x :: suf).getD pre.length [] = x := by simp
theorem ln_size {rows : List (List Int)} (h5 : rows.length ≤ 5) (t : Nat) : (Bt (ln t rows 0)).size ≤ 1048576 := by
  rw [bt_size]; have := ln_len t rows 0; omega
def fin (s : ByteArray) (H : Int) (t : List (List Int)) : Int × List (List Int) × Bool := if okBay H t = true ∧ Bt (btT t H.toNat) = s then (H, t, true) else (0, [], false)
theorem text_ev (h : Int) (l : List (List Int)) (hb : okBay h l = true) : Ev (fun k => spec_l9Text.f k h l) (Bt (btT l h.toNat)) := by
  have hm := okBay_mem hb
  have hh : 1 ≤ h ∧ h ≤ 4 := by
    unfold okBay at hb
    simp only [Bool.and_eq_true] at hb
    exact inr_iff.mp hb.1
  obtain ⟨H, rfl⟩ := Int.eq_ofNat_of_zero_le (show 0 ≤ h by omega)
  have hl := btT_len l hm.1.2 H
  unfold spec_l9Text.f
  rw [wr (x := (H : Int) - 1) (by omega) (by omega)]
  exact text_all hm.1.2 hm.2 (H : Int) (btT l H) (by omega) H (by omega) [] (by simp)
theorem high_of {h : Int} {l : List (List Int)} (hb : okBay h l = true) : ∃ H : Nat, h = (H : Int) ∧ 1 ≤ H ∧ H ≤ 4 ∧ ∀ x, x ∈ l → x.length ≤ H := by
  unfold okBay at hb
  simp only [Bool.and_eq_true] at hb
  have hh := inr_iff.mp hb.1
  obtain ⟨t, ht⟩ := Option.isSome_iff_exists.1 hb.2.2
  refine ⟨h.toNat, by omega, by omega, by omega, fun x hx => ?_⟩
  have := (chkRows_mem h l [] t ht x hx).1
  omega
end Go.Proofs.YtnknojpijmfefaaGreatDoor.PB
namespace Go.Proofs.YtnknojpijmfefaaGreatDoor.PB
open Go.RowKit Go.Proofs.YtnknojpijmfefaaGreatDoorW.PrintWords Go.Proofs.YtnknojpijmfefaaGreatDoorW.PrintMore Go.Proofs.YtnknojpijmfefaaGreatDoor.P Go.Proofs.YtnknojpijmfefaaGreatDoor.U Go.Proofs.YtnknojpijmfefaaGreatDoor.UT Go.Proofs.YtnknojpijmfefaaGreatDoor.UB
set_option linter.unusedVariables false
set_option maxRecDepth 100000 in
theorem pi_pd : ∀ n, n < 100 → ((strings_TrimPrefix.f ⟨(btPd ((n : Nat) : Int)).toArray⟩ ⟨#[48]⟩).bind fun q => (impl_ParseInt.f q).bind fun x => some x.1) = some ((n : Nat) : Int) := by decide +kernel
theorem part_pi {r : List Int} (h : ∀ n, n ∈ r → 1 ≤ n ∧ n ≤ 99) {t : Nat} (ht : t < r.length) : ∃ q x, strings_TrimPrefix.f (btPart t r) ⟨#[48]⟩ = some q ∧ impl_ParseInt.f q = some x ∧ x.1 = r[t] := by
  obtain ⟨m, e, h1, h2⟩ := row_at h ht
  have e2 := e
  rw [getD_at _ _ _ ht] at e2
  have hp : btPart t r = ⟨(btPd (m : Int)).toArray⟩ := by unfold btPart; rw [if_pos ht, e]
  obtain ⟨q, hq, h3⟩ := Option.bind_eq_some_iff.1 (pi_pd m (by omega))
  obtain ⟨x, hx, h4⟩ := Option.bind_eq_some_iff.1 h3
  exact ⟨q, x, by rw [hp]; exact hq, hx, by rw [e2]; exact Option.some.inj h4⟩
theorem pbAdd_ok (t : Nat) : ∀ (suf pre : List (List Int)), Rok (pre ++ suf) → pbAdd (suf.map (btPart t)) pre.length (pre.map (List.take (t + 1)) ++ suf.map (List.take t)) = some ((pre ++ suf).map (List.take (t + 1)))
  | [], pre, h => by rw [List.map_nil, pbAdd, List.map_nil, List.append_nil, List.append_nil]
  | r :: suf, pre, h => by
    have hr := h r (by simp)
    have ih := pbAdd_ok t suf (pre ++ [r]) (by rw [List.append_assoc]; exact h)
    rw [List.length_append, List.length_singleton, List.map_append, List.append_assoc, List.append_assoc] at ih
    rw [List.map_cons, List.map_cons, pbAdd]
    by_cases ht : t < r.length
    · obtain ⟨q, x, hq, hx, he⟩ := part_pi hr.2 ht
      have h1 : (pre.map (List.take (t + 1)) ++ r.take t :: suf.map (List.take t)).getD pre.length [] = r.take t := by
        have := get_at (pre.map (List.take (t + 1))) (r.take t) (suf.map (List.take t))
        rw [List.length_map] at this; exact this
      have h2 := put_at (pre.map (List.take (t + 1))) (r.take t) (r.take t ++ [x.1]) (suf.map (List.take t))
      rw [List.length_map] at h2
      rw [if_neg (fun hc => (part_dots hr.2 t).1 hc ht), hq, Option.bind_some, hx, Option.bind_some, h1, if_pos (by rw [List.length_take]; have := hr.1; omega), h2, he, ← List.take_succ_eq_append_getElem ht]
      exact ih
    · rw [if_pos ((part_dots hr.2 t).2 ht)]
      rw [show r.take t = r.take (t + 1) by rw [List.take_of_length_le (by omega), List.take_of_length_le (by omega)]]
      exact ih
theorem words_ln {rows : List (List Int)} (h : Rok rows) (hn : rows ≠ []) (t : Nat) : wordsB (Bt (ln t rows 0)) 32 = rows.map (btPart t) := by
  rw [wordsB_spa, tl_bt, spa_words t h hn]
theorem pbRows_ok {rows : List (List Int)} (h : Rok rows) (hn : rows ≠ []) (h5 : rows.length ≤ 5) : ∀ d t, pbRows ((RT rows t d).map Bt) (rows.map (List.take t)) = some (some (rows.map (List.take (t + d))))
  | 0, t => rfl
  | d + 1, t => by
    have ha := pbAdd_ok t rows [] h
    rw [List.map_nil, List.nil_append, List.nil_append, List.length_nil] at ha
    rw [RT, List.map_cons, pbRows, if_pos (ln_size h5 t), words_ln h hn t, if_pos (by rw [List.length_map, List.length_map]), ha, Option.bind_some, pbRows_ok h hn h5 d (t + 1), show t + 1 + d = t + (d + 1) by omega]
theorem pbFin_ev (s : ByteArray) (H : Int) (t : List (List Int)) : Ev (fun k => pbFin k s H (some t)) (fin s H t) := by
  unfold pbFin fin impl_IsValidBay.f
  cases hb : okBay H t
  · rw [if_neg (fun h => by cases h.1)]
    exact Ev.bind (ev_const rfl) (ev_neg (by rw [hb]; decide) (ev_const rfl))
  · have hm := okBay_mem hb
    obtain ⟨h, rfl, h1, h4, hx⟩ := high_of hb
    have hl := btT_len t hm.1.2 h
    have ht : Ev (fun k => impl_bayText.f k (h : Int) t) (Bt (btT t (h : Int).toNat)) := by
      refine ⟨3, fun k hk => ?_⟩
      have hc : btOk k (h : Int) t := by
        refine ⟨hk, ⟨by omega, by omega⟩, ⟨by omega, by omega⟩, by rw [Int.toNat_natCast]; omega, ?_⟩
        rw [List.all_eq_true]
        intro x hx2
        rw [List.all_eq_true]
        intro n hn2
        have := (hm.2 x hx2).2 n hn2
        exact decide_eq_true ⟨by omega, by omega⟩
      unfold impl_bayText.f
      dsimp only
      rw [if_pos hc]
      rfl
    refine Ev.bind (ev_const rfl) (ev_pos hb (Ev.bind ht ?_))
    by_cases e : Bt (btT t (h : Int).toNat) = s
    · exact ev_eq (ev_pos e (ev_const rfl)) (if_pos ⟨rfl, e⟩).symm
    · exact ev_eq (ev_neg e (ev_const rfl)) (if_neg (fun h => e h.2)).symm
theorem lines_text {l : List (List Int)} (h : Rok l) (H : Nat) (h1 : 1 ≤ H) : linesF (Bt (btT l H)) = ((LT l H).map Bt, true) := by
  obtain ⟨m, rfl⟩ : ∃ m, H = m + 1 := ⟨H - 1, by omega⟩
  have hw : wordsB (Bt (btT l (m + 1))) 10 = (LT l (m + 1) ++ [[]]).map Bt := by rw [wordsB_spa, tl_bt, spa_text h]
  have hlen : ((LT l (m + 1) ++ [[]]).map Bt).length = m + 1 + 1 := by rw [List.length_map, List.length_append, LT_length]; rfl
  unfold linesF
  rw [if_neg (by rw [bt_size, btT, btLine_eq]; simp), hw, hlen, Nat.add_sub_cancel]
  refine Prod.ext ?_ ?_
  · show ((LT l (m + 1) ++ [[]]).map Bt).take (m + 1) = _
    rw [← List.map_take, List.take_left' (LT_length l (m + 1))]
  · refine decide_eq_true ?_
    unfold rdOf
    rw [Int.toNat_natCast, List.map_append, List.getD_eq_getElem?_getD, List.getElem?_append_right (by rw [List.length_map, LT_length]; exact Nat.le_refl _), List.length_map, LT_length, Nat.sub_self]
    rfl
theorem take0 : ∀ (l : List (List Int)), l.map (List.take 0) = List.replicate l.length []
  | [] => rfl
  | x :: l => by rw [List.map_cons, take0 l, List.length_cons, List.replicate_succ, List.take_zero]
theorem impl_back (h : Int) (l : List (List Int)) (hb : okBay h l = true) : Ev (fun k => impl_ParseBay.f k (Bt (btT l h.toNat))) (h, l, true) := by
  have hm := okBay_mem hb
  obtain ⟨H, rfl, h1, h4, hx⟩ := high_of hb
  have hl := btT_len l hm.1.2 H
  have hne : l ≠ [] := by intro e; rw [e] at hm; exact absurd hm.1.1 (by decide)
  rw [Int.toNat_natCast]
  have hs : (Bt (btT l H)).size ≤ 64 := by rw [bt_size]; omega
  have hf := pbFin_ev (Bt (btT l H)) (H : Int) l
  rw [show fin (Bt (btT l H)) (H : Int) l = ((H : Int), l, true) by unfold fin; rw [if_pos ⟨hb, by rw [Int.toNat_natCast]⟩]] at hf
  have hlen : ((LT l H).map Bt).length = H := by rw [List.length_map, LT_length]
  have h0 : ((LT l H).map Bt).getD 0 ⟨#[]⟩ = Bt (ln (H - 1) l 0) := by
    obtain ⟨m, rfl⟩ : ∃ m, H = m + 1 := ⟨H - 1, by omega⟩
    rfl
  have hr := pbRows_ok hm.2 hne hm.1.2 H 0
  rw [show l.map (List.take (0 + H)) = l by
    rw [Nat.zero_add]
    conv => rhs; rw [← List.map_id l]
    exact List.map_congr_left (fun x hm => List.take_of_length_le (hx x hm)), take0 l] at hr
  unfold impl_ParseBay.f
  rw [lines_text hm.2 H h1]
  dsimp only
  rw [hlen]
  refine ev_pos (by omega) (ev_neg (by simp; omega) ?_)
  unfold impl_ParseBay.g
  rw [h0, hlen, words_ln hm.2 hne, List.length_map, ← List.map_reverse, LT_rev, hr]
  exact ev_pos (ln_size hm.1.2 _) (Ev.bind (ev_const rfl) hf)
end Go.Proofs.YtnknojpijmfefaaGreatDoor.PB
namespace Go.Proofs.YtnknojpijmfefaaGreatDoor.PB
open Go.RowKit Go.Proofs.YtnknojpijmfefaaGreatDoorW.PrintWords Go.Proofs.YtnknojpijmfefaaGreatDoorW.PrintMore Go.Proofs.YtnknojpijmfefaaGreatDoor.P Go.Proofs.YtnknojpijmfefaaGreatDoor.U Go.Proofs.YtnknojpijmfefaaGreatDoor.UT Go.Proofs.YtnknojpijmfefaaGreatDoor.UB
set_option linter.unusedVariables false
theorem pieces (s : ByteArray) (c : UInt8) : ∀ x, x ∈ (spa c [] s.data.toList).map Bt → x.size ≤ s.size := by
  intro x hx
  obtain ⟨y, hy, rfl⟩ := List.mem_map.1 hx
  have := spa_size c _ _ y hy
  have e : s.data.toList.length = s.size := by rw [Array.length_toList]; rfl
  rw [bt_size]
  simp at this
  omega
theorem tp_tot (x y : ByteArray) (hx : x.size ≤ 1048576) : ∃ b, strings_TrimPrefix.f x y = some b ∧ b.size ≤ x.size := by
  unfold strings_TrimPrefix.f stringslite_TrimPrefix.f stringslite_HasPrefix.f
  by_cases h : y.size ≤ x.size
  · rw [if_pos (by omega), if_pos (by omega), if_pos (by omega)]
    dsimp only [Option.bind_some]
    split
    · rw [if_pos (by omega), if_pos (by omega)]
      refine ⟨_, rfl, ?_⟩
      rw [ByteArray.size_extract]; omega
    · exact ⟨_, rfl, Nat.le_refl _⟩
  · rw [if_neg (by omega)]
    exact ⟨_, rfl, Nat.le_refl _⟩
theorem get_set (t : List (List Int)) (i j : Nat) (y : List Int) : (t.set i y).getD j [] = y ∧ i = j ∨ (t.set i y).getD j [] = t.getD j [] ∧ (i ≠ j ∨ t.getD j [] = []) := by
  simp only [List.getD_eq_getElem?_getD, List.getElem?_set]
  by_cases e : i = j
  · subst e
    rw [if_pos rfl]
    by_cases hl : i < t.length
    · rw [if_pos hl]; exact Or.inl ⟨rfl, rfl⟩
    · rw [if_neg hl, List.getElem?_eq_none (by omega)]; exact Or.inr ⟨rfl, Or.inr rfl⟩
  · rw [if_neg e]; exact Or.inr ⟨rfl, Or.inl e⟩
theorem pbAdd_tot (B : Nat) (hB : B ≤ 999) : ∀ (ws : List ByteArray) (i : Nat) (t : List (List Int)), (∀ w, w ∈ ws → w.size ≤ 1048576) → (∀ j, (t.getD j []).length ≤ B + 1) → (∀ j, i ≤ j → (t.getD j []).length ≤ B) →
    ∃ t2, pbAdd ws i t = some t2 ∧ ∀ j, (t2.getD j []).length ≤ B + 1
  | [], i, t, hw, h1, h2 => ⟨t, rfl, h1⟩
  | p :: ps, i, t, hw, h1, h2 => by
    have hw2 := fun w hm => hw w (List.mem_cons_of_mem p hm)
    have hp := hw p List.mem_cons_self
    rw [pbAdd]
    by_cases hd : p.data.toList = [46, 46]
    · rw [if_pos hd]
      exact pbAdd_tot B hB ps (i + 1) t hw2 h1 (fun j hj => h2 j (by omega))
    · obtain ⟨q, hq, hqs⟩ := tp_tot p ⟨#[48]⟩ hp
      have hpi : impl_ParseInt.f q = some (piF q.data.toList) := by unfold impl_ParseInt.f; rw [if_pos (by omega)]
      have hi := h2 i (Nat.le_refl _)
      rw [if_neg hd, hq, Option.bind_some, hpi, Option.bind_some, if_pos (by omega)]
      refine pbAdd_tot B hB ps (i + 1) _ hw2 (fun j => ?_) (fun j hj => ?_)
      · rcases get_set t i j (t.getD i [] ++ [(piF q.data.toList).1]) with ⟨e, _⟩ | ⟨e, _⟩
        · rw [e, List.length_append, List.length_singleton]; omega
        · rw [e]; exact h1 j
      · rcases get_set t i j (t.getD i [] ++ [(piF q.data.toList).1]) with ⟨e, e2⟩ | ⟨e, _⟩
        · omega
        · rw [e]; exact h2 j (by omega)
theorem pbRows_tot : ∀ (ls : List ByteArray) (t : List (List Int)) (B : Nat), (∀ l, l ∈ ls → l.size ≤ 1048576) → (∀ j, (t.getD j []).length ≤ B) → B + ls.length ≤ 1000 → ∃ o, pbRows ls t = some o
  | [], t, B, hl, ht, hn => ⟨_, rfl⟩
  | l :: ls, t, B, hl, ht, hn => by
    rw [List.length_cons] at hn
    have hz := hl l List.mem_cons_self
    rw [pbRows, if_pos hz]
    by_cases e : (wordsB l 32).length = t.length
    · obtain ⟨t2, h2, h3⟩ := pbAdd_tot B (by omega) (wordsB l 32) 0 t (fun w hw => by rw [wordsB_spa] at hw; have := pieces l 32 w hw; omega) (fun j => Nat.le_succ_of_le (ht j)) (fun j _ => ht j)
      rw [if_pos e, h2, Option.bind_some]
      exact pbRows_tot ls t2 (B + 1) (fun x hx => hl x (List.mem_cons_of_mem _ hx)) h3 (by omega)
    · rw [if_neg e]
      exact ⟨_, rfl⟩
theorem impl_tot (s : ByteArray) (hs : s.size ≤ 1048576) : ∃ r, Ev (fun k => impl_ParseBay.f k s) r ∧ (r = (0, [], false) ∨ ∃ H t, r = fin s H t) := by
  have hz : ∀ x, x ∈ (linesF s).1 → x.size ≤ 1048576 := by
    unfold linesF
    split
    · intro x hx; cases hx
    · intro x hx
      have hx2 := List.mem_of_mem_take hx
      rw [wordsB_spa] at hx2
      have := pieces s 10 x hx2; omega
  obtain ⟨ls, hls⟩ : ∃ l, l = (linesF s).1 := ⟨_, rfl⟩
  unfold impl_ParseBay.f
  rw [← hls] at hz ⊢
  by_cases hc : (linesF s).2 = false ∨ ls.length = 0 ∨ 4 < ls.length
  · exact ⟨_, ev_pos hs (ev_pos hc (ev_const rfl)), Or.inl rfl⟩
  · have h4 : ¬ 4 < ls.length := fun h => hc (Or.inr (Or.inr h))
    have h0 : ¬ ls.length = 0 := fun h => hc (Or.inr (Or.inl h))
    have hg : (ls.getD 0 ⟨#[]⟩).size ≤ 1048576 := by
      rw [getD_at _ _ _ (by omega : 0 < ls.length)]
      exact hz _ (List.getElem_mem _)
    obtain ⟨o, ho⟩ := pbRows_tot ls.reverse (List.replicate (wordsB (ls.getD 0 ⟨#[]⟩) 32).length []) 0 (fun l hl => hz l (List.mem_reverse.1 hl)) (fun j => by
      rw [List.getD_eq_getElem?_getD, List.getElem?_replicate]
      split <;> exact Nat.le_refl _) (by rw [List.length_reverse]; omega)
    unfold impl_ParseBay.g
    cases o with
    | none => exact ⟨_, ev_pos hs (ev_neg hc (ev_pos hg (Ev.bind (ev_const ho) (ev_const rfl)))), Or.inl rfl⟩
    | some t => exact ⟨_, ev_pos hs (ev_neg hc (ev_pos hg (Ev.bind (ev_const ho) (pbFin_ev s _ t)))), Or.inr ⟨_, _, rfl⟩⟩
theorem fin_none {s : ByteArray} (h : ¬ ∃ H t, okBay H t = true ∧ Bt (btT t H.toNat) = s) (H : Int) (t : List (List Int)) : fin s H t = (0, [], false) := by
  unfold fin
  rw [if_neg (fun h2 => h ⟨H, t, h2⟩)]
end Go.Proofs.YtnknojpijmfefaaGreatDoor.PB
namespace Go.Proofs.YtnknojpijmfefaaGreatDoor.UD
open Go.RowKit Go.Proofs.YtnknojpijmfefaaGreatDoorW.PrintWords Go.Proofs.YtnknojpijmfefaaGreatDoorW.PrintMore Go.Proofs.YtnknojpijmfefaaGreatDoor.P Go.Proofs.YtnknojpijmfefaaGreatDoor.U
set_option linter.unusedVariables false

def codeOk (c : List Int) : Prop := c.length ≤ 65536 ∧ ∀ x, x ∈ c → 0 ≤ x ∧ x ≤ 255
theorem wf_u8 {x : Int} (h : (Lit.int .u8 x).wf = true) : 0 ≤ x ∧ x ≤ 255 := by
  have h1 : (decide (IntKind.u8.min ≤ x) && decide (x ≤ IntKind.u8.max)) = true := h
  rw [Bool.and_eq_true, decide_eq_true_iff, decide_eq_true_iff] at h1
  exact h1
theorem wrap_u64 (n : Int) : IntKind.u64.wrap n = n % 18446744073709551616 := by simp [IntKind.wrap, IntKind.bits, IntKind.signed]
theorem u64_low (n : Int) : 0 ≤ wrap64 (Go.bits .and .u64 (IntKind.u64.wrap n / 1099511627776) 255) ∧ wrap64 (Go.bits .and .u64 (IntKind.u64.wrap n / 1099511627776) 255) ≤ 255 := by
  have h : IntKind.u64.wrap n = n % 18446744073709551616 := wrap_u64 n
  have e := bits_mask .u64 24 (by decide) (fun m h0 h1 => by rw [wrap_u64]; omega) 8 (by decide) (IntKind.u64.wrap n / 1099511627776) (by omega) (by omega)
  have e2 : Go.bits .and .u64 (IntKind.u64.wrap n / 1099511627776) 255 = IntKind.u64.wrap n / 1099511627776 % 256 := e
  rw [e2, wr (by omega) (by omega)]
  omega
theorem next_ev {c : List Int} (hc : codeOk c) {i s : Int} (hi : 0 ≤ i ∧ i ≤ 1000000000) : ∃ r s', spec_l1Cur_next.f c i s = some (r, i + 1, s') ∧ 0 ≤ r ∧ r ≤ 255 := by
  have hw : wrap64 (i + 1) = i + 1 := wr (by omega) (by omega)
  unfold spec_l1Cur_next.f
  rw [hw]
  by_cases h1 : i < (c.length : Int)
  · obtain ⟨n, rfl⟩ := Int.eq_ofNat_of_zero_le hi.1
    have hn : n < c.length := by omega
    have hb := hc.2 _ (List.getElem_mem hn)
    rw [if_pos h1, if_pos hi.1, if_pos (by omega), rd_at c n hn]
    exact ⟨_, _, rfl, by rw [wr (by omega) (by omega)]; exact hb⟩
  · rw [if_neg h1, if_neg (by have := hc.1; omega)]
    exact ⟨_, _, rfl, u64_low _⟩
theorem tmod_in {b n : Int} (hb : 0 ≤ b) (hn : 0 < n) : 0 ≤ Int.tmod b n ∧ Int.tmod b n < n := by
  rw [Int.tmod_eq_emod_of_nonneg hb]
  exact ⟨Int.emod_nonneg _ (by omega), Int.emod_lt_of_pos _ hn⟩
theorem pick_ev {c : List Int} (hc : codeOk c) {i s n : Int} (hi : 0 ≤ i ∧ i ≤ 999999990) : ∃ r j s', spec_l1Cur_pick.f c i s n = some (r, j, s') ∧ 0 ≤ r ∧ (r < n ∨ n ≤ 1 ∧ r = 0) ∧ i ≤ j ∧ j ≤ i + 2 := by
  unfold spec_l1Cur_pick.f
  by_cases h1 : n ≤ 1
  · rw [if_pos h1]
    exact ⟨0, i, s, rfl, by omega, Or.inr ⟨h1, rfl⟩, by omega, by omega⟩
  rw [if_neg h1]
  obtain ⟨r1, s1, e1, b1⟩ := next_ev hc (s := s) (i := i) (by omega)
  rw [e1, Option.bind_some]
  dsimp only
  by_cases h2 : n > 200
  · rw [if_pos h2]
    obtain ⟨r2, s2, e2, b2⟩ := next_ev hc (s := s1) (i := i + 1) (by omega)
    rw [e2, Option.bind_some]
    dsimp only
    rw [if_neg (by omega), wr (x := r1 * 256) (by omega) (by omega), wr (x := r1 * 256 + r2) (by omega) (by omega)]
    have := tmod_in (b := r1 * 256 + r2) (n := n) (by omega) (by omega)
    exact ⟨_, _, _, rfl, this.1, Or.inl this.2, by omega, by omega⟩
  · rw [if_neg h2, if_neg (by omega)]
    have := tmod_in (b := r1) (n := n) (by omega) (by omega)
    exact ⟨_, _, _, rfl, this.1, Or.inl this.2, by omega, by omega⟩
theorem among_ev {c : List Int} (hc : codeOk c) {i s : Int} (hi : 0 ≤ i ∧ i ≤ 999999990) (l : List Int) (hl : 0 < l.length) : ∃ r j s', spec_l1Cur_among.f c i s l = some (r, j, s') ∧ r ∈ l ∧ i ≤ j ∧ j ≤ i + 2 := by
  unfold spec_l1Cur_among.f
  obtain ⟨r, j, s1, e, h0, h1, h2⟩ := pick_ev hc (s := s) (n := (l.length : Int)) hi
  rw [e, Option.bind_some]
  dsimp only
  have hr : r < (l.length : Int) := by rcases h1 with h1 | h1 <;> omega
  rw [if_pos h0, if_pos hr]
  obtain ⟨n, rfl⟩ := Int.eq_ofNat_of_zero_le h0
  have hn : n < l.length := by omega
  exact ⟨_, _, _, rfl, by rw [rd_at l n hn]; exact List.getElem_mem hn, h2⟩
end Go.Proofs.YtnknojpijmfefaaGreatDoor.UD
namespace Go.Proofs.YtnknojpijmfefaaGreatDoor.UB
open Go.RowKit Go.Proofs.YtnknojpijmfefaaGreatDoorW.PrintWords Go.Proofs.YtnknojpijmfefaaGreatDoorW.PrintMore Go.Proofs.YtnknojpijmfefaaGreatDoor.P Go.Proofs.YtnknojpijmfefaaGreatDoor.U Go.Proofs.YtnknojpijmfefaaGreatDoor.UT Go.Proofs.YtnknojpijmfefaaGreatDoor.UD
set_option linter.unusedVariables false
theorem chkRow_once : ∀ (l s t : List Int), chkRow l s = some t → (∀ x, x ∈ t ↔ x ∈ s ∨ x ∈ l) ∧ l.Nodup ∧ ∀ x, x ∈ l → ¬ x ∈ s
  | [], s, t, h => by injection h with h; subst h; simp
  | n :: l, s, t, h => by
    unfold chkRow at h
    split at h
    · rename_i hc
      rw [Bool.and_eq_true] at hc
      have hn : ¬ n ∈ s := by simpa using hc.2
      obtain ⟨h1, h2, h3⟩ := chkRow_once l (n :: s) t h
      refine ⟨fun x => by rw [h1, List.mem_cons, List.mem_cons]; grind, List.nodup_cons.mpr ⟨fun hm => h3 n hm List.mem_cons_self, h2⟩, fun x hx hs => ?_⟩
      rcases List.mem_cons.mp hx with rfl | hx
      · exact hn hs
      · exact h3 x hx (List.mem_cons_of_mem _ hs)
    · cases h
theorem chkRows_once (cap : Int) : ∀ (l : List (List Int)) (s t : List Int), chkRows cap l s = some t → (∀ x, x ∈ t ↔ x ∈ s ∨ x ∈ l.flatten) ∧ l.flatten.Nodup ∧ ∀ x, x ∈ l.flatten → ¬ x ∈ s
  | [], s, t, h => by injection h with h; subst h; simp
  | r :: l, s, t, h => by
    unfold chkRows at h
    split at h
    · cases h1 : chkRow r s with
      | none => rw [h1] at h; cases h
      | some u =>
        rw [h1] at h
        obtain ⟨a1, a2, a3⟩ := chkRow_once r s u h1
        obtain ⟨b1, b2, b3⟩ := chkRows_once cap l u t h
        rw [List.flatten_cons]
        refine ⟨fun x => by rw [b1, a1, List.mem_append]; grind, List.nodup_append.mpr ⟨a2, b2, fun x hx y hy e => ?_⟩, fun x hx hs => ?_⟩
        · subst e; exact b3 x hy ((a1 x).mpr (Or.inr hx))
        · rcases List.mem_append.mp hx with hx | hx
          · exact a3 x hx hs
          · exact b3 x hx ((a1 x).mpr (Or.inl hs))
    · cases h
theorem one_ev {c : List Int} (hc : codeOk c) {i s n : Int} (hi : 0 ≤ i ∧ i ≤ 999999990) : ∃ b j s', spec_l1Cur_one.f c i s n = some (b, j, s') ∧ i ≤ j ∧ j ≤ i + 2 := by
  unfold spec_l1Cur_one.f
  obtain ⟨r, j, s1, e, _, _, g⟩ := pick_ev hc (s := s) (n := n) hi
  rw [e]
  exact ⟨_, _, _, rfl, g⟩
theorem vints_l (l : List Int) (hn : l.length ≤ 1048576) : ∀ d i, i + d = l.length → Ev (fun k => laws_vInts.l0 k l l (i : Int)) true := by
  intro d
  induction d with
  | zero => intro i hi; exact Ev.step (fun k => by simp only [laws_vInts.l0]; rfl) (ev_neg (by omega) (ev_const rfl))
  | succ d ih =>
    intro i hi
    have hlt : i < l.length := by omega
    refine Ev.step (fun k => by simp only [laws_vInts.l0]; rfl) (ev_pos (by omega) (ev_pos (by omega) (ev_pos (by omega) ?_)))
    rw [wsucc hlt (by omega)]
    exact ev_pos trivial (ih (i + 1) (by omega))
theorem vints_ev (l : List Int) (hn : l.length ≤ 1048576) : Ev (fun k => laws_vInts.f k l l) true := by
  unfold laws_vInts.f
  exact ev_pos rfl (vints_l l hn l.length 0 (by omega))
theorem idx_none (v : Int) : ∀ (r : List Int) (i : Nat), ¬ v ∈ r → idx v r i = -1
  | [], _, _ => rfl
  | x :: r, i, h => by
    unfold idx
    rw [if_neg (fun e => h (by rw [e]; exact List.mem_cons_self)), idx_none v r (i + 1) (fun hm => h (List.mem_cons_of_mem _ hm))]
theorem idx_at (v : Int) : ∀ (r z : List Int) (i : Nat), ¬ v ∈ r → idx v (r ++ v :: z) i = ((i + r.length : Nat) : Int)
  | [], z, i, _ => by
    rw [List.nil_append]; unfold idx; rw [if_pos rfl]; rfl
  | x :: r, z, i, h => by
    rw [List.cons_append]
    unfold idx
    rw [if_neg (fun e => h (by rw [e]; exact List.mem_cons_self)), idx_at v r z (i + 1) (fun hm => h (List.mem_cons_of_mem _ hm)), List.length_cons]
    omega
theorem find_at (v : Int) : ∀ (l : List (List Int)) (i j : Nat) (h : j < l.length) (r z : List Int), l[j] = r ++ v :: z → l.flatten.Nodup → find v l i = (((i + j : Nat) : Int), (r.length : Int))
  | r0 :: l, i, 0, h, r, z, e, hd => by
    have e0 : r0 = r ++ v :: z := e
    subst e0
    rw [List.flatten_cons] at hd
    have hd1 := (List.nodup_append.mp hd).1
    have hn : ¬ v ∈ r := fun hm => (List.nodup_append.mp hd1).2.2 v hm v List.mem_cons_self rfl
    unfold find
    rw [idx_at v r z 0 hn, if_pos (by omega), Nat.zero_add]; rfl
  | r0 :: l, i, j + 1, h, r, z, e, hd => by
    have hj : j < l.length := by simpa using h
    have e2 : l[j] = r ++ v :: z := by simpa using e
    rw [List.flatten_cons] at hd
    obtain ⟨_, d2, d3⟩ := List.nodup_append.mp hd
    have hn : ¬ v ∈ r0 := fun hc => d3 v hc v (List.mem_flatten.mpr ⟨_, List.getElem_mem hj, by rw [e2]; simp⟩) rfl
    unfold find
    rw [idx_none v r0 0 hn, if_neg (by omega), find_at v l (i + 1) j hj r z e2 d2]
    congr 2; omega
theorem top_split (q : List Int) (h : 0 < q.length) : q = q.take (q.length - 1) ++ [top q] := by
  have e : top q = q[q.length - 1] := by
    unfold top
    rw [show ((q.length : Int) - 1) = ((q.length - 1 : Nat) : Int) by omega]
    exact rd_at q (q.length - 1) (by omega)
  rw [e, ← List.take_succ_eq_append_getElem (by omega), show q.length - 1 + 1 = q.length by omega, List.take_length]
theorem okBay_once {h : Int} {l : List (List Int)} (hb : okBay h l = true) : l.flatten.Nodup := by
  unfold okBay at hb
  simp only [Bool.and_eq_true] at hb
  obtain ⟨t, ht⟩ := Option.isSome_iff_exists.mp hb.2.2
  exact (chkRows_once h l [] t ht).2.1
/-! The bays that are drawn. -/
def YB (l : List (List Int)) : Prop := (1 ≤ l.length ∧ l.length ≤ 4) ∧ ∀ x, x ∈ l → x.length ≤ 4
theorem YB.set {l : List (List Int)} (h : YB l) (t : Nat) (r : List Int) (hr : r.length ≤ 4) : YB (l.set t r) := by
  refine ⟨by rw [List.length_set]; exact h.1, fun x hx => ?_⟩
  rcases List.mem_or_eq_of_mem_set hx with hx | rfl
  · exact h.2 x hx
  · exact hr
theorem getD_four {l : List (List Int)} (h : ∀ x, x ∈ l → x.length ≤ 4) (t : Nat) : (l.getD t []).length ≤ 4 := by
  by_cases ht : t < l.length
  · rw [getD_at _ _ _ ht]; exact h _ (List.getElem_mem ht)
  · rw [show l.getD t [] = [] by simp [List.getD, List.getElem?_eq_none (by omega : l.length ≤ t)]]; simp
/-- A drawn bay's rows: its numbers are real ones. -/
def YN (l : List (List Int)) : Prop := YB l ∧ ∀ x, x ∈ l → ∀ n, n ∈ x → 1 ≤ n ∧ n ≤ 99
theorem YN.put {l : List (List Int)} (h : YN l) (t : Nat) (v : Int) (hl : (l.getD t []).length ≤ 3) (hv : 1 ≤ v ∧ v ≤ 99) : YN (l.set t (l.getD t [] ++ [v])) := by
  refine ⟨h.1.set t _ (by rw [List.length_append, List.length_singleton]; omega), fun x hx n hn => ?_⟩
  rcases List.mem_or_eq_of_mem_set hx with hx | rfl
  · exact h.2 x hx n hn
  · rcases List.mem_append.1 hn with hn | hn
    · by_cases ht : t < l.length
      · rw [getD_at _ _ _ ht] at hn; exact h.2 _ (List.getElem_mem ht) n hn
      · rw [show l.getD t [] = [] by simp [List.getD, List.getElem?_eq_none (by omega : l.length ≤ t)]] at hn; cases hn
    · rw [List.mem_singleton.1 hn]; exact hv
theorem findE {l : List (List Int)} (h : YB l) (H v : Int) : Ev (fun k => spec_l9Find.f k H l v) (find v l 0) :=
  find_spec H v l (by have := h.1; omega) (fun x hx => by have := h.2 x hx; omega) l.length 0 (by omega)
theorem bay_l1 {c : List Int} (hc : codeOk c) {H : Int} (hH : H ≤ 4) : ∀ (m : Nat) (i s : Int) (l : List (List Int)), YN l → 0 ≤ i → i + 4 * m ≤ 900000000 → ∃ (l' : List (List Int)) (j s' : Int), Ev (fun k => spec_l1Cur_bay.l1 k (m : Int) c i s H l) (H, l', j, s') ∧ YN l' ∧ i ≤ j ∧ j ≤ i + 4 * m
  | 0, i, s, l, h, h0, h1 => by
    refine ⟨l, i, s, ?_, h, by omega, by omega⟩
    refine Ev.step (fun k => by simp only [spec_l1Cur_bay.l1]; rfl) ?_
    exact ev_neg (by omega) (ev_const rfl)
  | m + 1, i, s, l, h, h0, h1 => by
    obtain ⟨a, i1, s1, e1, a0, a1, g1⟩ := pick_ev hc (s := s) (n := (l.length : Int)) (i := i) (by omega)
    obtain ⟨b, i2, s2, e2, b0, b1, g2⟩ := pick_ev hc (s := s1) (n := 3) (i := i1) (by omega)
    have hl := h.1.1
    obtain ⟨a, rfl⟩ := Int.eq_ofNat_of_zero_le a0
    have hw : wrap64 ((((m + 1 : Nat) : Int)) - 1) = (m : Int) := by rw [wr (by omega) (by omega)]; omega
    have ea : rd_L2 l (a : Int) = l.getD a [] := by unfold rd_L2; rw [Int.toNat_natCast]
    obtain ⟨v, hv⟩ : ∃ v : Int, v = wrap64 (1 + (Int.tmod (wrap64 ((wrap64 (7 * ((m + 1 : Nat) : Int))) + (wrap64 (b * 31)))) 99)) := ⟨_, rfl⟩
    have hvb : 1 ≤ v ∧ v ≤ 99 := by
      rw [hv, wr (x := 7 * ((m + 1 : Nat) : Int)) (by omega) (by omega), wr (x := b * 31) (by omega) (by omega), wr (x := 7 * ((m + 1 : Nat) : Int) + b * 31) (by omega) (by omega), Int.tmod_eq_emod_of_nonneg (by omega), wr (by omega) (by omega)]
      omega
    have hf := findE h.1 H v
    obtain ⟨lA, jA, sA, gA3, gA4, gA5, gA6⟩ := bay_l1 hc hH m i2 s2 l h (by omega) (by omega)
    by_cases hp : (find v l 0).1 < 0
    · by_cases ha : (((l.getD a []).length : Int) < H)
      · obtain ⟨l', j, s', g3, g4, g5, g6⟩ := bay_l1 hc hH m i2 s2 (l.set a (l.getD a [] ++ [v])) (h.put a v (by omega) hvb) (by omega) (by omega)
        refine ⟨l', j, s', ?_, g4, by omega, by omega⟩
        refine Ev.step (fun k => by simp only [spec_l1Cur_bay.l1]; rfl) ?_
        refine ev_pos (by omega) (ev_call e1 (ev_call e2 ?_))
        try dsimp only
        rw [← hv]
        refine Ev.bind hf (ev_pos hp (ev_pos (by omega) (ev_pos (by omega) ?_)))
        rw [ea, hw]
        refine ev_pos ha (ev_pos (by omega) ?_)
        rw [Int.toNat_natCast]
        exact g3
      · refine ⟨lA, jA, sA, ?_, gA4, by omega, by omega⟩
        refine Ev.step (fun k => by simp only [spec_l1Cur_bay.l1]; rfl) ?_
        refine ev_pos (by omega) (ev_call e1 (ev_call e2 ?_))
        try dsimp only
        rw [← hv]
        refine Ev.bind hf (ev_pos hp (ev_pos (by omega) (ev_pos (by omega) ?_)))
        rw [ea, hw]
        exact ev_neg ha gA3
    · refine ⟨lA, jA, sA, ?_, gA4, by omega, by omega⟩
      refine Ev.step (fun k => by simp only [spec_l1Cur_bay.l1]; rfl) ?_
      refine ev_pos (by omega) (ev_call e1 (ev_call e2 ?_))
      try dsimp only
      rw [← hv]
      refine Ev.bind hf (ev_neg hp ?_)
      rw [hw]
      exact gA3
theorem bay_l0 {c : List Int} (hc : codeOk c) {H : Int} (hH : H ≤ 4) : ∀ (m : Nat) (i s : Int) (l : List (List Int)), l.length + m ≤ 4 → 1 ≤ l.length + m → (∀ x, x ∈ l → x.length ≤ 4 ∧ ∀ n, n ∈ x → 1 ≤ n ∧ n ≤ 99) → 0 ≤ i → i ≤ 700000000 → ∃ (l' : List (List Int)) (j s' : Int), Ev (fun k => spec_l1Cur_bay.l0 k (m : Int) c i s H l) (H, l', j, s') ∧ YN l' ∧ i ≤ j ∧ j ≤ i + 100
  | 0, i, s, l, h1, h2, h3, h4, h5 => by
    obtain ⟨a, i1, s1, e1, a0, a1, g1⟩ := pick_ev hc (s := s) (n := 9) (i := i) (by omega)
    obtain ⟨a, rfl⟩ := Int.eq_ofNat_of_zero_le a0
    obtain ⟨l', j, s', g3, g4, g5, g6⟩ := bay_l1 hc hH a i1 s1 l ⟨⟨by omega, fun x hx => (h3 x hx).1⟩, fun x hx => (h3 x hx).2⟩ (by omega) (by omega)
    refine ⟨l', j, s', ?_, g4, by omega, by omega⟩
    refine Ev.step (fun k => by simp only [spec_l1Cur_bay.l0]; rfl) ?_
    exact ev_neg (by omega) (ev_call e1 g3)
  | m + 1, i, s, l, h1, h2, h3, h4, h5 => by
    obtain ⟨l', j, s', g3, g4, g5, g6⟩ := bay_l0 hc hH m i s (l ++ [[]]) (by rw [List.length_append, List.length_singleton]; omega) (by rw [List.length_append, List.length_singleton]; omega) (fun x hx => by
      rcases List.mem_append.mp hx with hx | hx
      · exact h3 x hx
      · rw [List.mem_singleton.mp hx]; exact ⟨by simp, fun n hn => by cases hn⟩) h4 h5
    refine ⟨l', j, s', ?_, g4, g5, g6⟩
    refine Ev.step (fun k => by simp only [spec_l1Cur_bay.l0]; rfl) ?_
    refine ev_pos (by omega) (ev_pos (by omega) ?_)
    rw [show wrap64 ((((m + 1 : Nat) : Int)) - 1) = (m : Int) by rw [wr (by omega) (by omega)]; omega]
    exact g3
theorem bay_evN {c : List Int} (hc : codeOk c) {i s : Int} (hi : 0 ≤ i ∧ i ≤ 600000000) : ∃ (H : Int) (l : List (List Int)) (j s' : Int), Ev (fun k => spec_l1Cur_bay.f k c i s) (H, l, j, s') ∧ (1 ≤ H ∧ H ≤ 4) ∧ YN l ∧ i ≤ j ∧ j ≤ i + 2000 := by
  unfold spec_l1Cur_bay.f
  obtain ⟨b, i0, s0, e0, b0, b1, g0⟩ := pick_ev hc (s := s) (n := 4) (i := i) (by omega)
  obtain ⟨a, i1, s1, e1, a0, a1, g1⟩ := pick_ev hc (s := s0) (n := 4) (i := i0) (by omega)
  obtain ⟨a, rfl⟩ := Int.eq_ofNat_of_zero_le a0
  have hH : wrap64 (1 + b) ≤ 4 := by rw [wr (by omega) (by omega)]; omega
  obtain ⟨l', j, s', g3, g4, g5, g6⟩ := bay_l0 hc hH (1 + a) i1 s1 [] (by rw [List.length_nil]; omega) (by rw [List.length_nil]; omega) (fun x hx => by cases hx) (by omega) (by omega)
  refine ⟨wrap64 (1 + b), l', j, s', ev_call e0 (ev_call e1 ?_), ⟨by rw [wr (by omega) (by omega)]; omega, hH⟩, g4, by omega, by omega⟩
  try dsimp only
  rw [show wrap64 (1 + (a : Int)) = ((1 + a : Nat) : Int) by rw [wr (by omega) (by omega)]; omega]
  exact g3
theorem bay_ev {c : List Int} (hc : codeOk c) {i s : Int} (hi : 0 ≤ i ∧ i ≤ 600000000) : ∃ (H : Int) (l : List (List Int)) (j s' : Int), Ev (fun k => spec_l1Cur_bay.f k c i s) (H, l, j, s') ∧ YB l ∧ i ≤ j ∧ j ≤ i + 2000 := by
  obtain ⟨H, l, j, s', h1, _, h2, h3, h4⟩ := bay_evN hc (i := i) (s := s) hi
  exact ⟨H, l, j, s', h1, h2.1, h3, h4⟩
def AB (l : List (List Int)) : Prop := l.length ≤ 20 ∧ ∀ x, x ∈ l → x.length ≤ 20
theorem any_l0 {c : List Int} (hc : codeOk c) (H : Int) : ∀ (m n : Nat) (i s : Int) (l : List (List Int)), n + m = 7 → l.length ≤ 4 + n → (∀ x, x ∈ l → x.length ≤ 20) → 0 ≤ i → i + 2 * m ≤ 900000000 → ∃ (l' : List (List Int)) (j s' : Int), Ev (fun k => spec_l1Cur_anyBay.l0 k (n : Int) c i s H l) (H, l', j, s') ∧ AB l' ∧ i ≤ j ∧ j ≤ i + 2 * m + 2
  | 0, n, i, s, l, hn, h1, h2, h3, h4 => by
    obtain ⟨a, i1, s1, e1, a0, a1, g1⟩ := pick_ev hc (s := s) (n := 2) (i := i) (by omega)
    by_cases h5 : (l.length : Int) < wrap64 (5 + a)
    · refine ⟨l, i1, s1, ?_, ⟨by omega, h2⟩, by omega, by omega⟩
      refine Ev.step (fun k => by simp only [spec_l1Cur_anyBay.l0]; rfl) ?_
      exact ev_call e1 (ev_pos h5 (ev_neg (by omega) (ev_const rfl)))
    · refine ⟨l, i1, s1, ?_, ⟨by omega, h2⟩, by omega, by omega⟩
      refine Ev.step (fun k => by simp only [spec_l1Cur_anyBay.l0]; rfl) ?_
      exact ev_call e1 (ev_neg h5 (ev_const rfl))
  | m + 1, n, i, s, l, hn, h1, h2, h3, h4 => by
    obtain ⟨a, i1, s1, e1, a0, a1, g1⟩ := pick_ev hc (s := s) (n := 2) (i := i) (by omega)
    by_cases h5 : (l.length : Int) < wrap64 (5 + a)
    · obtain ⟨l', j, s', g3, g4, g5, g6⟩ := any_l0 hc H m (n + 1) i1 s1 (l ++ [[wrap64 (60 + (n : Int))]]) (by omega) (by rw [List.length_append, List.length_singleton]; omega) (fun x hx => by
        rcases List.mem_append.mp hx with hx | hx
        · exact h2 x hx
        · rw [List.mem_singleton.mp hx]; simp) (by omega) (by omega)
      refine ⟨l', j, s', ?_, g4, by omega, by omega⟩
      refine Ev.step (fun k => by simp only [spec_l1Cur_anyBay.l0]; rfl) ?_
      refine ev_call e1 (ev_pos h5 (ev_pos (by omega) (ev_pos (by omega) ?_)))
      rw [wsucc (n := 7) (by omega) (by omega)]
      exact g3
    · refine ⟨l, i1, s1, ?_, ⟨by omega, h2⟩, by omega, by omega⟩
      refine Ev.step (fun k => by simp only [spec_l1Cur_anyBay.l0]; rfl) ?_
      exact ev_call e1 (ev_neg h5 (ev_const rfl))
theorem any_ev {c : List Int} (hc : codeOk c) {i s : Int} (hi : 0 ≤ i ∧ i ≤ 500000000) : ∃ (H : Int) (l : List (List Int)) (j s' : Int), Ev (fun k => spec_l1Cur_anyBay.f k c i s) (H, l, j, s') ∧ AB l ∧ i ≤ j ∧ j ≤ i + 3000 := by
  unfold spec_l1Cur_anyBay.f
  obtain ⟨H, y, i1, s1, e1, hy, g1⟩ := bay_ev hc (i := i) (s := s) (by omega)
  obtain ⟨a, i2, s2, e2, a0, a1, g2⟩ := pick_ev hc (s := s1) (n := (y.length : Int)) (i := i1) (by omega)
  obtain ⟨z, i3, s3, e3, z0, z1, g3⟩ := pick_ev hc (s := s2) (n := 24) (i := i2) (by omega)
  obtain ⟨a, rfl⟩ := Int.eq_ofNat_of_zero_le a0
  have hl := hy.1
  have hAB : AB y := ⟨by omega, fun x hx => by have := hy.2 x hx; omega⟩
  have ea : rd_L2 y (a : Int) = y.getD a [] := by unfold rd_L2; rw [Int.toNat_natCast]
  have h4 := getD_four hy.2 a
  have hset : ∀ r : List Int, r.length ≤ 20 → AB (y.set (a : Int).toNat r) := fun r hr => ⟨by rw [List.length_set]; omega, fun x hx => by
    rcases List.mem_or_eq_of_mem_set hx with hx | rfl
    · exact hAB.2 x hx
    · exact hr⟩
  by_cases c0 : z = 0
  · obtain ⟨b, i4, s4, e4, _, g4⟩ := among_ev hc (s := s3) (i := i3) (by omega) [0, 5, 4, (-1)] (by decide)
    exact ⟨b, y, i4, s4, Ev.bind e1 (ev_call e2 (ev_call e3 (ev_pos c0 (ev_call e4 (ev_const rfl))))), hAB, by omega, by omega⟩
  by_cases c1 : z = 1
  · obtain ⟨b, i4, s4, e4, _, g4⟩ := among_ev hc (s := s3) (i := i3) (by omega) [0, 100, 99, 8] (by decide)
    refine ⟨H, y.set (a : Int).toNat (y.getD a [] ++ [b]), i4, s4, Ev.bind e1 (ev_call e2 (ev_call e3 (ev_neg c0 (ev_pos c1 (ev_pos (by (try dsimp only); omega) (ev_pos (by (try dsimp only); omega) (ev_call e4 ?_))))))), hset (y.getD a [] ++ [b]) (by rw [List.length_append, List.length_singleton]; omega), by omega, by omega⟩
    try dsimp only
    rw [ea]
    exact ev_pos (by omega) (ev_const rfl)
  by_cases c2 : z = 2
  · exact ⟨H, [], i3, s3, Ev.bind e1 (ev_call e2 (ev_call e3 (ev_neg c0 (ev_neg c1 (ev_pos c2 (ev_const rfl)))))), ⟨by simp, fun x hx => by cases hx⟩, by (try dsimp only); omega, by (try dsimp only); omega⟩
  by_cases c3 : z = 3
  · obtain ⟨l', j, s', g5, g6, g7, g8⟩ := any_l0 hc H 7 0 i3 s3 y (by omega) (by omega) hAB.2 (by omega) (by omega)
    exact ⟨H, l', j, s', Ev.bind e1 (ev_call e2 (ev_call e3 (ev_neg c0 (ev_neg c1 (ev_neg c2 (ev_pos c3 g5)))))), g6, by omega, by omega⟩
  · exact ⟨H, y, i3, s3, Ev.bind e1 (ev_call e2 (ev_call e3 (ev_neg c0 (ev_neg c1 (ev_neg c2 (ev_neg c3 (ev_const rfl))))))), hAB, by omega, by omega⟩
/-! What loading gives; what unloading and the slot's place give behind it; the bay's text. -/
def loadV (h : Int) (l : List (List Int)) (a n : Int) : Int × List (List Int) × Bool := if okRow h l a = true then (if okBay h (push l a n) = true then (h, push l a n, true) else (0, [], false)) else (0, [], false)
theorem load_both (h : Int) (l : List (List Int)) (hn : l.length ≤ 1048576) (hx : ∀ x, x ∈ l → x.length ≤ 1048576) (a n : Int) :
    Ev (fun k => spec_LoadBox.f k h l a n) (loadV h l a n) ∧ Ev (fun k => impl_LoadBox.f k h l a n) (loadV h l a n) := by
  unfold spec_LoadBox.f impl_LoadBox.f loadV
  have h1 := row_spec h l hn hx a
  have h2 := row_impl h l hn a
  cases hr : okRow h l a
  · rw [hr] at h1 h2
    exact ⟨ev_eq (r := (0, [], false)) (Ev.bind h1 (ev_neg (by simp) (ev_const rfl))) rfl, ev_eq (r := (0, [], false)) (ev_call h2 (ev_neg (by simp) (ev_const rfl))) rfl⟩
  rw [hr] at h1 h2
  obtain ⟨hb, h0, h3⟩ := okRow_in hr
  obtain ⟨⟨_, hl5⟩, hm⟩ := okBay_mem hb
  have hrow := (hm _ (rdl_mem h0 h3)).1
  have hp4 : ∀ x, x ∈ push l a n → x.length ≤ 5 := push_rows (fun x hx => (hm x hx).1) h0 h3
  have hg := good_spec h (push l a n) (by rw [push_len]; exact hn) (fun x hx => by have := hp4 x hx; omega)
  have hs : ∀ (r : Int × List (List Int) × Bool), Ev (fun k => (spec_l9Good.f k h (push l a n)).bind fun t => if t = true then some (h, push l a n, true) else some (0, [], false)) r → Ev (fun k => (spec_l9Row.f k h l a).bind fun t142 => (if t142 = true then ((spec_l9Own.f k h l).bind fun bt143 => (if 0 ≤ a then (if a < (bt143.2.length : Int) then (if (rd_L2 bt143.2 a).length < 17592186044416 then ((some (bt143.2.set (a : Int).toNat ((rd_L2 bt143.2 a) ++ [n]) : List (List Int))).bind fun y152 => ((spec_l9Good.f k bt143.1 y152).bind fun t153 => (if t153 = true then (some (bt143.1, y152, true)) else (some (0, ([] : List (List Int)), false))))) else (none)) else (none)) else (none))) else (some (0, ([] : List (List Int)), false)))) r := fun r hh =>
    Ev.bind h1 (ev_pos rfl (Ev.bind (own_spec h l hn hx) (ev_pos h0 (ev_pos h3 (ev_pos (by show (rd_L2 l a).length < _; omega) hh)))))
  have hi : ∀ (r : Int × List (List Int) × Bool), (if okBay h (push l a n) = true then some (h, push l a n, true) else some (0, [], false)) = some r → Ev (fun k => (impl_hasRow.f h l a).bind fun t191 => (if t191 = true then ((impl_ownBay.f k h l).bind fun bt192 => (if 0 ≤ a then (if a < (bt192.2.length : Int) then (if (rd_L2 bt192.2 a).length < 17592186044416 then ((some (bt192.2.set (a : Int).toNat ((rd_L2 bt192.2 a) ++ [n]) : List (List Int))).bind fun y201 => ((impl_IsValidBay.f bt192.1 y201).bind fun t202 => (if t202 = true then (some (bt192.1, y201, true)) else (some (0, ([] : List (List Int)), false))))) else (none)) else (none)) else (none))) else (some (0, ([] : List (List Int)), false)))) r := fun r hh =>
    ev_call h2 (ev_pos rfl (Ev.bind (own_impl h l hn hx) (ev_pos h0 (ev_pos h3 (ev_pos (by show (rd_L2 l a).length < _; omega) (ev_const hh))))))
  cases hk : okBay h (push l a n)
  · rw [hk] at hg hi
    exact ⟨ev_eq (r := (0, [], false)) (hs _ (Ev.bind hg (ev_neg (by simp) (ev_const rfl)))) rfl, ev_eq (r := (0, [], false)) (hi _ rfl) rfl⟩
  · rw [hk] at hg hi
    exact ⟨ev_eq (r := (h, push l a n, true)) (hs _ (Ev.bind hg (ev_pos rfl (ev_const rfl)))) rfl, ev_eq (r := (h, push l a n, true)) (hi _ rfl) rfl⟩
theorem push_get {l : List (List Int)} {a n : Int} (h0 : 0 ≤ a) (h1 : a < (l.length : Int)) : rd_L2 (push l a n) a = rd_L2 l a ++ [n] := by
  unfold push
  have hj : a.toNat < (l.set a.toNat (rd_L2 l a ++ [n])).length := by rw [List.length_set]; omega
  have h2 := rd_l1 (l.set a.toNat (rd_L2 l a ++ [n])) a.toNat hj
  rw [Int.toNat_of_nonneg h0] at h2
  rw [h2, List.getElem_set_self]
theorem push_cut {l : List (List Int)} {a n : Int} (h0 : 0 ≤ a) (h1 : a < (l.length : Int)) : cutR (push l a n) a = l := by
  unfold cutR
  rw [push_get h0 h1, List.length_append, List.length_singleton, Nat.add_sub_cancel, List.take_left]
  unfold push
  rw [List.set_set]
  have h2 := rd_l1 l a.toNat (by omega)
  rw [Int.toNat_of_nonneg h0] at h2
  rw [h2, List.set_getElem_self]
theorem unload_after {h : Int} {l : List (List Int)} {a n : Int} (hb : okBay h (push l a n) = true) (h0 : 0 ≤ a) (h1 : a < (l.length : Int)) : Ev (fun k => impl_UnloadRow.f k h (push l a n) a) (h, l, n, true) := by
  obtain ⟨⟨_, hl5⟩, hm⟩ := okBay_mem hb
  have hn : (push l a n).length ≤ 1048576 := by omega
  have hx : ∀ x, x ∈ push l a n → x.length ≤ 1048576 := fun x hx => by have := (hm x hx).1; omega
  have h3 : a < ((push l a n).length : Int) := by rw [push_len]; exact h1
  have hr : okRow h (push l a n) a = true := by
    unfold okRow
    rw [hb, Bool.true_and, inr_iff]
    omega
  have h2 := row_impl h (push l a n) hn a
  rw [hr] at h2
  have hrow := (hm _ (rdl_mem h0 h3)).1
  have hz : 0 < (rd_L2 (push l a n) a).length := by rw [push_get h0 h1, List.length_append, List.length_singleton]; omega
  have ht : top (rd_L2 (push l a n) a) = n := by
    have h4 := top_split (rd_L2 (push l a n) a) hz
    rw [push_get h0 h1] at h4 ⊢
    rw [List.length_append, List.length_singleton, Nat.add_sub_cancel, List.take_left] at h4
    have h5 := List.append_cancel_left h4
    injection h5 with h5
    exact h5.symm
  obtain ⟨w1, w2⟩ := wlast (n := (rd_L2 (push l a n) a).length) (by omega) (by omega)
  have hu : Ev (fun k => impl_UnloadRow.f k h (push l a n) a) (h, cutR (push l a n) a, top (rd_L2 (push l a n) a), true) := by
    unfold impl_UnloadRow.f
    refine ev_call h2 (ev_pos rfl (ev_pos h0 (ev_pos h3 ?_)))
    rw [show (((rd_L2 (push l a n) a).length : Int) == 0) = false by rw [beq_eq_false_iff_ne]; omega]
    refine Ev.step (fun k => by simp only [impl_UnloadRow.j0]; rfl) (ev_neg (by simp) (Ev.bind (own_impl h (push l a n) hn hx) (ev_pos h0 (ev_pos h3 ?_))))
    refine ev_call (top_impl (rd_L2 (push l a n) a) (by omega) (by omega)) ?_
    dsimp only
    rw [w1, w2]
    refine ev_pos (by omega) ?_
    refine ev_pos (by omega) ?_
    exact ev_const rfl
  rw [push_cut h0 h1, ht] at hu
  exact hu
theorem slot_after {h : Int} {l : List (List Int)} {a n : Int} (hb : okBay h (push l a n) = true) (h0 : 0 ≤ a) (h1 : a < (l.length : Int)) : Ev (fun k => impl_SlotOf.f k h (push l a n) n) (a, ((rd_L2 l a).length : Int), true) := by
  obtain ⟨⟨_, hl5⟩, hm⟩ := okBay_mem hb
  have hj : a.toNat < (push l a n).length := by rw [push_len]; omega
  have hg : (push l a n)[a.toNat] = rd_L2 l a ++ n :: [] := by
    have h2 := rd_l1 (push l a n) a.toNat hj
    rw [Int.toNat_of_nonneg h0, push_get h0 h1] at h2
    exact h2.symm
  have h2 := find_impl n (push l a n) (by omega) (fun x hx => by have := (hm x hx).1; omega) (push l a n).length 0 (by omega)
  rw [List.drop_zero, find_at n (push l a n) 0 a.toNat hj (rd_L2 l a) [] hg (okBay_once hb), Nat.zero_add, Int.toNat_of_nonneg h0] at h2
  unfold impl_SlotOf.f impl_slotOf.f impl_placeOf.f impl_IsValidBay.f
  rw [hb]
  have h3 : Ev (fun k => (impl_placeOf.l0 k n (push l a n) ((push l a n).length : Int) 0).bind fun bt208 => some (bt208.1, bt208.2)) (a, ((rd_L2 l a).length : Int)) := Ev.bind h2 (ev_const rfl)
  exact Ev.bind h3 (ev_call rfl (ev_pos rfl (ev_neg (by show ¬ a < 0; omega) (ev_const rfl))))
def textV (h : Int) (l : List (List Int)) : ByteArray × Bool := if okBay h l = true then (Bt (btT l h.toNat), true) else (⟨#[]⟩, false)
theorem text_val (h : Int) (l : List (List Int)) : Ev (fun k => impl_BayText.f k h l) (textV h l) := by
  unfold impl_BayText.f impl_IsValidBay.f textV
  cases hb : okBay h l
  · exact ev_eq (r := (⟨#[]⟩, false)) (Ev.bind (ev_const rfl) (ev_neg (by simp) (ev_const rfl))) rfl
  · have hm := okBay_mem hb
    have hh : 1 ≤ h ∧ h ≤ 4 := by
      unfold okBay at hb
      simp only [Bool.and_eq_true] at hb
      exact inr_iff.mp hb.1
    obtain ⟨H, rfl⟩ := Int.eq_ofNat_of_zero_le (show 0 ≤ h by omega)
    have hl := btT_len l hm.1.2 H
    refine ev_eq (r := (Bt (btT l (H : Int).toNat), true)) (Ev.bind (ev_const rfl) (ev_pos rfl (Ev.bind ⟨3, fun k hk => ?_⟩ (ev_const rfl)))) rfl
    have hc : btOk k (H : Int) l := by
      refine ⟨hk, ⟨by omega, by omega⟩, ⟨by omega, by omega⟩, by rw [Int.toNat_natCast]; omega, ?_⟩
      rw [List.all_eq_true]
      intro x hx2
      rw [List.all_eq_true]
      intro n hn2
      have := (hm.2 x hx2).2 n hn2
      exact decide_eq_true ⟨by omega, by omega⟩
    unfold impl_bayText.f
    dsimp only
    rw [if_pos hc]
    rfl
end Go.Proofs.YtnknojpijmfefaaGreatDoor.UB
namespace Go.Proofs.YtnknojpijmfefaaGreatDoor.UB
open Go.RowKit Go.Proofs.YtnknojpijmfefaaGreatDoorW.PrintWords Go.Proofs.YtnknojpijmfefaaGreatDoorW.PrintMore Go.Proofs.YtnknojpijmfefaaGreatDoor.P Go.Proofs.YtnknojpijmfefaaGreatDoor.U Go.Proofs.YtnknojpijmfefaaGreatDoor.UT Go.Proofs.YtnknojpijmfefaaGreatDoor.UD Go.Proofs.YtnknojpijmfefaaGreatDoor.PB
set_option linter.unusedVariables false
theorem btT_pos (l : List (List Int)) (n : Nat) (hn : 1 ≤ n) : 1 ≤ (btT l n).length := by
  obtain ⟨m, rfl⟩ : ∃ m, n = m + 1 := ⟨n - 1, by omega⟩
  rw [btT, btLine_eq, List.length_append, List.length_append, List.length_singleton]
  omega
theorem spR_size (a : ByteArray) (i j d : Int) : (spR a i j d).size ≤ 2 * a.size + 5 := by
  have h1 : ∀ x y : Nat, (a.extract x y).size ≤ a.size := fun x y => by rw [ByteArray.size_extract]; omega
  have h2 : (spW j).size ≤ 1 := by unfold spW; rw [ByteArray.size_extract]; omega
  unfold spR
  split
  · rw [ByteArray.size_append, ByteArray.size_append]
    have := h1 0 i.toNat; have := h1 i.toNat a.size; omega
  · split
    · rw [ByteArray.size_append, ByteArray.size_append]
      have := h1 0 i.toNat; have := h1 (i + 1).toNat a.size; omega
    · rw [ByteArray.size_append]
      have := h1 0 i.toNat; have := h1 (i + 1).toNat a.size; omega
theorem draw_parse {c : List Int} (hc : codeOk c) : ∃ t : ByteArray, Ev (fun k => spec_DrawParseBay.f k c) t ∧ t.size ≤ 1000 := by
  obtain ⟨H, l, j, s, h1, hH, hN, hj1, hj2⟩ := bay_evN hc (i := 0) (s := 0) (by omega)
  obtain ⟨n, rfl⟩ := Int.eq_ofNat_of_zero_le (show 0 ≤ H by omega)
  have hl4 := hN.1.1
  have hl := btT_len l (by omega) n
  have hp := btT_pos l n (by omega)
  have ht : Ev (fun k => spec_l9Text.f k (n : Int) l) (Bt (btT l n)) := by
    unfold spec_l9Text.f
    rw [wr (x := (n : Int) - 1) (by omega) (by omega)]
    exact text_all (by omega) (fun x hx => ⟨hN.1.2 x hx, hN.2 x hx⟩) (n : Int) (btT l n) (by omega) n (by omega) [] (by simp)
  have hz : (Bt (btT l n)).size = (btT l n).length := bt_size _
  obtain ⟨a, ha⟩ : ∃ a, a = Bt (btT l n) := ⟨_, rfl⟩
  rw [← ha] at ht hz
  obtain ⟨b, i2, s2, e2, g2, g3⟩ := one_ev hc (i := j) (s := s) (n := 4) (by omega)
  unfold spec_DrawParseBay.f
  cases b
  · exact ⟨a, Ev.bind h1 (Ev.bind ht (ev_call e2 (ev_neg (by simp) (ev_const rfl)))), by omega⟩
  · obtain ⟨p, i3, s3, e3, p0, p1, g4⟩ := pick_ev hc (s := s2) (n := (a.size : Int)) (i := i2) (by omega)
    obtain ⟨q, i4, s4, e4, q0, q1, g5⟩ := pick_ev hc (s := s3) (n := 5) (i := i3) (by omega)
    obtain ⟨d, i5, s5, e5, d0, d1, g6⟩ := pick_ev hc (s := s4) (n := 3) (i := i4) (by omega)
    have hs : spec_l1Cur_spoilt.f c i2 s2 a ⟨#[46, 48, 32, 49, 10]⟩ = some (spR a p q d, i5, s5) := by
      unfold spec_l1Cur_spoilt.f
      rw [if_pos ⟨rfl, by omega, by omega⟩, e3, Option.bind_some]
      dsimp only
      rw [e4, Option.bind_some]
      dsimp only
      rw [e5, Option.bind_some, if_pos ⟨⟨p0, by omega⟩, q0, by omega⟩]
    have := spR_size a p q d
    exact ⟨spR a p q d, Ev.bind h1 (Ev.bind ht (ev_call e2 (ev_pos rfl (ev_call hs (ev_const rfl))))), by omega⟩
theorem vtab_l (l : List (List Int)) (hn : l.length ≤ 1048576) (hx : ∀ x, x ∈ l → x.length ≤ 1048576) : ∀ d i, i + d = l.length → Ev (fun k => laws_vTable.l0 k l l (i : Int)) true := by
  intro d
  induction d with
  | zero => intro i hi; exact Ev.step (fun k => by simp only [laws_vTable.l0]; rfl) (ev_neg (by omega) (ev_const rfl))
  | succ d ih =>
    intro i hi
    have hlt : i < l.length := by omega
    refine Ev.step (fun k => by simp only [laws_vTable.l0]; rfl) ?_
    refine ev_pos (by omega) (ev_pos (by omega) (ev_pos (by omega) ?_))
    rw [rd_l1 l i hlt]
    refine Ev.bind (vints_ev _ (hx _ (List.getElem_mem hlt))) (ev_pos rfl ?_)
    rw [wsucc hlt (by omega)]
    exact ih (i + 1) (by omega)
theorem vbay_ev (h : Int) (l : List (List Int)) (hn : l.length ≤ 1048576) (hx : ∀ x, x ∈ l → x.length ≤ 1048576) : Ev (fun k => laws_vBay.f k h l h l) true := by
  unfold laws_vBay.f laws_vTable.f
  exact ev_pos rfl (Ev.bind (ev_pos rfl (vtab_l l hn hx l.length 0 (by omega))) (ev_const rfl))
theorem draw_load {c : List Int} (hc : codeOk c) : ∃ (h : Int) (l : List (List Int)) (a n : Int), Ev (fun k => spec_DrawLoadBox.f k c) (h, l, a, n) ∧ AB l := by
  obtain ⟨H, l, j, s, h1, hA, g1, g2⟩ := any_ev hc (i := 0) (s := 0) (by omega)
  obtain ⟨p, i2, s2, e2, _, _, g3, g4⟩ := pick_ev hc (s := s) (n := 5) (i := j) (by omega)
  obtain ⟨q, i3, s3, e3, _, _, g5, g6⟩ := pick_ev hc (s := s2) (n := 9) (i := i2) (by omega)
  obtain ⟨r, i4, s4, e4, _⟩ := among_ev hc (s := s3) (i := i3) (by omega) [90, 91, 99, 8, 0, 100] (by decide)
  unfold spec_DrawLoadBox.f
  exact ⟨H, l, _, r, Ev.bind h1 (ev_call e2 (ev_call e3 (ev_call e4 (ev_const rfl)))), hA⟩
theorem bays_ok {c : List Int} (hc : codeOk c) (hbig : laws_vBig.f c = some false) : ∃ k, laws_FnBays.Ok k c := by
  obtain ⟨h, l, a, n, ⟨k1, h1⟩, hA⟩ := draw_load hc
  have hn : l.length ≤ 1048576 := by have := hA.1; omega
  have hx : ∀ x, x ∈ l → x.length ≤ 1048576 := fun x hm => by have := hA.2 x hm; omega
  obtain ⟨⟨k2, h2⟩, ⟨k3, h3⟩⟩ := load_both h l hn hx a n
  have hV : Ev (fun k => spec_IsValidBay.f k h l) (okBay h l) := by
    unfold spec_IsValidBay.f
    exact Ev.bind (good_spec h l hn hx) (ev_const rfl)
  obtain ⟨k4, h4⟩ := hV
  obtain ⟨k5, h5⟩ := vbay_ev h l hn hx
  obtain ⟨k6, h6⟩ := text_val h l
  obtain ⟨t, ⟨k7, h7⟩, ht⟩ := draw_parse hc
  obtain ⟨y, ⟨k8, h8⟩, hy⟩ := impl_tot t (by omega)
  obtain ⟨yh, yl, rd⟩ := y
  obtain ⟨k9, h9⟩ := text_val yh yl
  have hP : ∃ x : Int × List (List Int) × Bool, Ev (fun k => impl_ParseBay.f k (textV h l).1) x ∧ (okBay h l = true → x = (h, l, true)) := by
    unfold textV
    cases hb : okBay h l
    · obtain ⟨x, e, _⟩ := impl_tot ⟨#[]⟩ (by decide)
      exact ⟨x, by rw [if_neg (by decide)]; exact e, fun h => by cases h⟩
    · exact ⟨_, by rw [if_pos rfl]; exact impl_back h l hb, fun _ => rfl⟩
  obtain ⟨⟨xh, xl, fine⟩, ⟨k10, h10⟩, hx2⟩ := hP
  have hL : ∃ (mh : Int) (ml : List (List Int)) (ok : Bool), loadV h l a n = (mh, ml, ok) ∧ (ml.length ≤ 1048576 ∧ ∀ x, x ∈ ml → x.length ≤ 1048576) ∧ (ok = true → mh = h ∧ ml = push l a n ∧ okBay h (push l a n) = true ∧ 0 ≤ a ∧ a < (l.length : Int)) := by
    unfold loadV
    split
    case isTrue hr =>
      obtain ⟨hb, h0, h1⟩ := okRow_in hr
      split
      case isTrue hk =>
        have hm := okBay_mem hk
        exact ⟨h, push l a n, true, rfl, ⟨by omega, fun x hm2 => by have := (hm.2 x hm2).1; omega⟩, fun _ => ⟨rfl, rfl, hk, h0, h1⟩⟩
      case isFalse hk => exact ⟨0, [], false, rfl, ⟨Nat.zero_le _, fun x hm => by cases hm⟩, fun h => by cases h⟩
    case isFalse hr => exact ⟨0, [], false, rfl, ⟨Nat.zero_le _, fun x hm => by cases hm⟩, fun h => by cases h⟩
  obtain ⟨mh, ml, ok, eL, ⟨hmn, hmx⟩, hok⟩ := hL
  rw [eL] at h2 h3
  obtain ⟨k11, h11⟩ := vbay_ev mh ml hmn hmx
  have hU : ∃ K tier, ∀ k, K ≤ k → ok = true → impl_UnloadRow.f k mh ml a = some (h, l, n, true) ∧ 0 ≤ (tier : Int) ∧ impl_SlotOf.f k mh ml n = some (a, tier, true) := by
    cases ok
    · exact ⟨0, 0, fun k _ h => by cases h⟩
    · obtain ⟨rfl, rfl, hk, h0, h1⟩ := hok rfl
      obtain ⟨ka, ha⟩ := unload_after hk h0 h1
      obtain ⟨kb, hb⟩ := slot_after hk h0 h1
      exact ⟨ka + kb, _, fun k hkk _ => ⟨ha k (by omega), by omega, hb k (by omega)⟩⟩
  obtain ⟨k12, tier, h12⟩ := hU
  refine ⟨k1 + k2 + k3 + k4 + k5 + k6 + k7 + k8 + k9 + k10 + k11 + k12, Or.inr ⟨hbig, h, l, a, n, h1 _ (by omega), mh, ml, ok, h3 _ (by omega), h2 _ (by omega), h11 _ (by omega), okBay h l, rfl, h4 _ (by omega), fun e => ?_, h5 _ (by omega), (textV h l).1, ?_, xh, xl, fine, h10 _ (by omega), fun e => ?_, t, h7 _ (by omega), yh, yl, rd, h8 _ (by omega), (textV yh yl).1, (textV yh yl).2, h9 _ (by omega), fun e => ?_⟩⟩
  · have := h12 (k1 + k2 + k3 + k4 + k5 + k6 + k7 + k8 + k9 + k10 + k11 + k12) (by omega) e
    exact ⟨this.1, tier, this.2.1, this.2.2⟩
  · have := h6 (k1 + k2 + k3 + k4 + k5 + k6 + k7 + k8 + k9 + k10 + k11 + k12) (by omega)
    dsimp only at this
    rw [this]
    unfold textV
    cases okBay h l <;> rfl
  · have := hx2 e
    injection this with e1 e2
    injection e2 with e2 e3
    exact ⟨e1, e2, e3⟩
  · subst e
    rcases hy with hy | ⟨H, T, hy⟩
    · injection hy with e1 e2
      injection e2 with e2 e3
      cases e3
    · unfold fin at hy
      split at hy
      case isTrue hg =>
        injection hy with e1 e2
        injection e2 with e2 e3
        subst e1 e2
        unfold textV
        rw [if_pos hg.1]
        exact ⟨rfl, hg.2⟩
      case isFalse hg =>
        injection hy with e1 e2
        injection e2 with e2 e3
        cases e3
theorem law_true {l0 : List Int} (hl : l0.length ≤ 9223372036854775807) (hw : ∀ x, x ∈ l0 → 0 ≤ x ∧ x ≤ 255) : ∃ K, ∀ k, k = K → laws_FnBays.Ok k l0 := by
  have hb : laws_vBig.f l0 = some (decide ((l0.length : Int) > 65536)) := rfl
  by_cases hbig : (l0.length : Int) > 65536
  · rw [decide_eq_true hbig] at hb
    exact ⟨0, fun k _ => Or.inl hb⟩
  · rw [decide_eq_false hbig] at hb
    obtain ⟨k, h⟩ := bays_ok (c := l0) ⟨by omega, hw⟩ hb
    exact ⟨k, fun _ e => e ▸ h⟩
end Go.Proofs.YtnknojpijmfefaaGreatDoor.UB
