/- The law of unloading, with all that it takes over. -/
import Derived.Test.YtdooakhjaffcdaaPx0
import Derived.Test.YtdooakhjaffcdaaPx1
import Derived.Test.YtdooakhjaffcdaaPx10
import Derived.Test.YtdooakhjaffcdaaPx11
import Derived.Test.YtdooakhjaffcdaaPx12
import Derived.Test.YtdooakhjaffcdaaPx13
import Derived.Test.YtdooakhjaffcdaaPx14
import Derived.Test.YtdooakhjaffcdaaPx15
import Derived.Test.YtdooakhjaffcdaaPx16
import Derived.Test.YtdooakhjaffcdaaPx17
import Derived.Test.YtdooakhjaffcdaaPx18
import Derived.Test.YtdooakhjaffcdaaPx2
import Derived.Test.YtdooakhjaffcdaaPx3
import Derived.Test.YtdooakhjaffcdaaPx4
import Derived.Test.YtdooakhjaffcdaaPx5
import Derived.Test.YtdooakhjaffcdaaPx6
import Derived.Test.YtdooakhjaffcdaaPx8
import Derived.Test.YtdooakhjaffcdaaPx9
import Derived.Test.YtdooakhjaffcdaaU
import Derived.Laws.BitsLemmas
namespace Go.Proofs.Ytdooakhjaffcdaa.UT
open Go.RowKit Go.Proofs.YtdooakhjaffcdaaW.PrintWords Go.Proofs.YtdooakhjaffcdaaW.PrintMore Go.Proofs.Ytdooakhjaffcdaa.P Go.Proofs.Ytdooakhjaffcdaa.U
set_option linter.unusedVariables false

theorem rd_l1 (l : List (List Int)) (i : Nat) (h : i < l.length) : rd_L2 l (i : Int) = l[i] := by
  unfold rd_L2
  rw [Int.toNat_natCast]
  exact getD_at l i _ h
theorem in_spec (a b c : Int) : spec_l1In.f a b c = some (inr a b c) := by
  unfold spec_l1In.f inr
  by_cases h : b ≤ a <;> simp [h]
theorem has_l (l : List Int) (v : Int) (hn : l.length ≤ 9223372036854775807) : ∀ d i, i + d = l.length → Ev (fun k => spec_l1Has.l0 k l v (i : Int)) ((l.drop i).contains v) := by
  intro d
  induction d with
  | zero =>
    intro i hi
    refine Ev.step (fun k => by simp only [spec_l1Has.l0]; rfl) (ev_neg (by omega) (ev_const ?_))
    rw [List.drop_of_length_le (by omega)]; rfl
  | succ d ih =>
    intro i hi
    have hlt : i < l.length := by omega
    refine Ev.step (fun k => by simp only [spec_l1Has.l0]; rfl) ?_
    refine ev_pos (by omega) (ev_pos (by omega) ?_)
    rw [rd_at l i hlt, wsucc hlt hn, List.drop_eq_getElem_cons hlt, List.contains_cons]
    by_cases e : l[i] = v
    · exact ev_eq (ev_pos e (ev_const rfl)) (by simp [e])
    · exact ev_eq (ev_neg e (ih (i + 1) (by omega))) (by simp [Ne.symm e])
theorem has_ev (l : List Int) (v : Int) (hn : l.length ≤ 9223372036854775807) : Ev (fun k => spec_l1Has.f k l v) (l.contains v) := by
  unfold spec_l1Has.f
  exact has_l l v hn l.length 0 (by omega)
end Go.Proofs.Ytdooakhjaffcdaa.UT
namespace Go.Proofs.Ytdooakhjaffcdaa.UB
open Go.RowKit Go.Proofs.YtdooakhjaffcdaaW.PrintWords Go.Proofs.YtdooakhjaffcdaaW.PrintMore Go.Proofs.Ytdooakhjaffcdaa.P Go.Proofs.Ytdooakhjaffcdaa.U Go.Proofs.Ytdooakhjaffcdaa.UT
set_option linter.unusedVariables false

theorem contains_rev (s : List Int) (n : Int) : s.reverse.contains n = s.contains n := by
  rw [Bool.eq_iff_iff]; simp
theorem good_l (h : Int) (l : List (List Int)) (hn : l.length ≤ 9223372036854775807) (hx : ∀ x, x ∈ l → x.length ≤ 1048576) : ∀ d i (s : List Int), i + d = l.length → s.length ≤ i * 1048576 → l.length ≤ 1048576 →
    Ev (fun k => spec_l9Good.l0 k s.reverse (i : Int) h l) ((chkRows h (l.drop i) s).isSome) := by
  intro d
  induction d with
  | zero =>
    intro i s hi hs _
    refine Ev.step (fun k => by simp only [spec_l9Good.l0]; rfl) ?_
    refine ev_neg (by omega) (ev_const ?_)
    rw [List.drop_of_length_le (by omega)]; rfl
  | succ d ih =>
    intro i s hi hs hll
    have hlt : i < l.length := by omega
    refine Ev.step (fun k => by simp only [spec_l9Good.l0]; rfl) ?_
    refine ev_pos (by omega) (ev_pos (by omega) ?_)
    rw [rd_l1 l i hlt, List.drop_eq_getElem_cons hlt]
    have hxi := hx _ (List.getElem_mem hlt)
    unfold chkRows
    by_cases hc : (l[i].length : Int) ≤ h
    · rw [if_pos hc]
      refine ev_neg (by omega) ?_
      have inner : ∀ e j (s : List Int), j + e = l[i].length → s.length ≤ i * 1048576 + j → Ev (fun k => spec_l9Good.l1 k s.reverse (i : Int) (j : Int) h l) (((chkRow (l[i].drop j) s).bind (chkRows h (l.drop (i + 1)))).isSome) := by
        intro e
        induction e with
        | zero =>
          intro j s hj hs
          refine Ev.step (fun k => by simp only [spec_l9Good.l1]; rfl) ?_
          refine ev_pos (by omega) (ev_pos (by omega) ?_)
          rw [rd_l1 l i hlt, wsucc hlt hn]
          refine ev_neg (by omega) ?_
          rw [List.drop_of_length_le (by omega)]
          exact ih (i + 1) s (by omega) (by omega) hll
        | succ e ihe =>
          intro j s hj hs
          have hjt : j < l[i].length := by omega
          refine Ev.step (fun k => by simp only [spec_l9Good.l1]; rfl) ?_
          refine ev_pos (by omega) (ev_pos (by omega) ?_)
          rw [rd_l1 l i hlt, rd_at _ j hjt, wsucc hjt (by omega), List.drop_eq_getElem_cons hjt]
          refine ev_pos (by omega) (ev_pos (by omega) ?_)
          refine ev_call (in_spec _ _ _) ?_
          cases h1 : inr l[i][j] 1 99
          · exact ev_eq (ev_neg (by simp) (ev_const rfl)) (by rw [chkRow_bad (by rw [h1]; rfl)]; rfl)
          refine ev_pos rfl ?_
          have hh := has_ev s.reverse l[i][j] (by rw [List.length_reverse]; omega)
          rw [contains_rev] at hh
          refine Ev.bind hh ?_
          cases h2 : s.contains l[i][j]
          · refine ev_neg (by simp) (ev_pos (by rw [List.length_reverse]; omega) ?_)
            rw [chkRow_ok (by rw [h1, h2]; rfl)]
            have e2 := ihe (j + 1) (l[i][j] :: s) (by omega) (by rw [List.length_cons]; omega)
            rw [List.reverse_cons] at e2
            exact e2
          · exact ev_eq (ev_pos rfl (ev_const rfl)) (by rw [chkRow_bad (by rw [h1, h2]; rfl)]; rfl)
      exact inner l[i].length 0 s (by omega) (Nat.le_trans hs (Nat.le_add_right _ _))
    · rw [if_neg hc]
      exact ev_pos (by omega) (ev_const rfl)
theorem good_spec (h : Int) (l : List (List Int)) (hn : l.length ≤ 1048576) (hx : ∀ x, x ∈ l → x.length ≤ 1048576) : Ev (fun k => spec_l9Good.f k h l) (okBay h l) := by
  unfold spec_l9Good.f okBay
  refine ev_call (in_spec _ _ _) ?_
  cases h1 : inr h 1 4
  · refine ev_neg (by simp) ?_
    refine Ev.step (fun k => by simp only [spec_l9Good.j0]; rfl) ?_
    exact ev_pos (by simp) (ev_const rfl)
  refine ev_pos rfl (ev_call (in_spec _ _ _) ?_)
  cases h2 : inr (l.length : Int) 1 5
  · refine Ev.step (fun k => by simp only [spec_l9Good.j0]; rfl) ?_
    exact ev_pos (by simp) (ev_const rfl)
  · refine Ev.step (fun k => by simp only [spec_l9Good.j0]; rfl) ?_
    exact ev_neg (by simp) (good_l h l (by omega) hx l.length 0 [] (by omega) (by simp) hn)
end Go.Proofs.Ytdooakhjaffcdaa.UB
namespace Go.Proofs.Ytdooakhjaffcdaa.UB
open Go.RowKit Go.Proofs.YtdooakhjaffcdaaW.PrintWords Go.Proofs.YtdooakhjaffcdaaW.PrintMore Go.Proofs.Ytdooakhjaffcdaa.P Go.Proofs.Ytdooakhjaffcdaa.U Go.Proofs.Ytdooakhjaffcdaa.UT
set_option linter.unusedVariables false

/-! A valid yard. -/
theorem chkRow_mem : ∀ (l s t : List Int), chkRow l s = some t → ∀ n, n ∈ l → inr n 1 99 = true
  | [], _, _, _, n, hn => by cases hn
  | x :: l, s, t, h, n, hn => by
    unfold chkRow at h
    split at h
    · rename_i hc
      rw [Bool.and_eq_true] at hc
      rcases List.mem_cons.mp hn with rfl | hn
      · exact hc.1
      · exact chkRow_mem l _ _ h n hn
    · cases h
theorem chkRows_mem (cap : Int) : ∀ (l : List (List Int)) (s t : List Int), chkRows cap l s = some t → ∀ x, x ∈ l → (x.length : Int) ≤ cap ∧ ∀ n, n ∈ x → inr n 1 99 = true
  | [], _, _, _, x, hx => by cases hx
  | r :: l, s, t, h, x, hx => by
    unfold chkRows at h
    split at h
    · rename_i hc
      cases h1 : chkRow r s with
      | none => rw [h1] at h; cases h
      | some u =>
        rw [h1] at h
        rcases List.mem_cons.mp hx with rfl | hx
        · exact ⟨hc, chkRow_mem _ _ _ h1⟩
        · exact chkRows_mem cap l _ _ h x hx
    · cases h
theorem rdl_mem {l : List (List Int)} {s : Int} (h0 : 0 ≤ s) (h1 : s < (l.length : Int)) : rd_L2 l s ∈ l := by
  obtain ⟨n, rfl⟩ := Int.eq_ofNat_of_zero_le h0
  have h : n < l.length := by omega
  rw [show rd_L2 l (n : Int) = l[n] from rd_l1 l n h]
  exact List.getElem_mem h

theorem okBay_mem {h : Int} {l : List (List Int)} (hb : okBay h l = true) : (1 ≤ l.length ∧ l.length ≤ 5) ∧ ∀ x, x ∈ l → x.length ≤ 4 ∧ ∀ n, n ∈ x → 1 ≤ n ∧ n ≤ 99 := by
  unfold okBay at hb
  simp only [Bool.and_eq_true, inr_iff] at hb
  obtain ⟨h1, h2, h3⟩ := hb
  obtain ⟨t, ht⟩ := Option.isSome_iff_exists.mp h3
  refine ⟨⟨by omega, by omega⟩, fun x hx => ?_⟩
  obtain ⟨h4, h5⟩ := chkRows_mem h l _ _ ht x hx
  exact ⟨by omega, fun n hn => inr_iff.mp (h5 n hn)⟩
end Go.Proofs.Ytdooakhjaffcdaa.UB
namespace Go.Proofs.Ytdooakhjaffcdaa.UB
open Go.RowKit Go.Proofs.YtdooakhjaffcdaaW.PrintWords Go.Proofs.YtdooakhjaffcdaaW.PrintMore Go.Proofs.Ytdooakhjaffcdaa.P Go.Proofs.Ytdooakhjaffcdaa.U Go.Proofs.Ytdooakhjaffcdaa.UT
set_option linter.unusedVariables false

def idx (v : Int) : List Int → Nat → Int
  | [], _ => -1
  | x :: l, i => if x = v then (i : Int) else idx v l (i + 1)
theorem idx_lo (v : Int) : ∀ (l : List Int) (i : Nat), idx v l i = -1 ∨ (i : Int) ≤ idx v l i
  | [], _ => .inl rfl
  | x :: l, i => by
    unfold idx
    split
    · exact .inr (Int.le_refl _)
    · rcases idx_lo v l (i + 1) with h | h
      · exact .inl h
      · exact .inr (by omega)
def find (v : Int) : List (List Int) → Nat → Int × Int
  | [], _ => (-1, -1)
  | x :: l, i => if 0 ≤ idx v x 0 then ((i : Int), idx v x 0) else find v l (i + 1)
theorem find_spec (h v : Int) (l : List (List Int)) (hn : l.length ≤ 1048576) (hx : ∀ x, x ∈ l → x.length ≤ 1048576) : ∀ d i, i + d = l.length → Ev (fun k => spec_l9Find.l0 k v (i : Int) h l) (find v (l.drop i) i) := by
  intro d
  induction d with
  | zero =>
    intro i hi
    refine Ev.step (fun k => by simp only [spec_l9Find.l0]; rfl) ?_
    refine ev_neg (by omega) (ev_const ?_)
    rw [List.drop_of_length_le (by omega)]; rfl
  | succ d ih =>
    intro i hi
    have hlt : i < l.length := by omega
    have hxi := hx _ (List.getElem_mem hlt)
    refine Ev.step (fun k => by simp only [spec_l9Find.l0]; rfl) ?_
    refine ev_pos (by omega) ?_
    rw [List.drop_eq_getElem_cons hlt]
    have inner : ∀ e j, j + e = l[i].length → Ev (fun k => spec_l9Find.l1 k v (i : Int) (j : Int) h l) (if 0 ≤ idx v (l[i].drop j) j then ((i : Int), idx v (l[i].drop j) j) else find v (l.drop (i + 1)) (i + 1)) := by
      intro e
      induction e with
      | zero =>
        intro j hj
        refine Ev.step (fun k => by simp only [spec_l9Find.l1]; rfl) ?_
        refine ev_pos (by omega) (ev_pos (by omega) ?_)
        rw [rd_l1 l i hlt, wsucc hlt (by omega), List.drop_of_length_le (show l[i].length ≤ j by omega)]
        refine ev_neg (by omega) ?_
        exact ev_eq (ih (i + 1) (by omega)) (by simp [idx])
      | succ e ihe =>
        intro j hj
        have hjt : j < l[i].length := by omega
        refine Ev.step (fun k => by simp only [spec_l9Find.l1]; rfl) ?_
        refine ev_pos (by omega) (ev_pos (by omega) ?_)
        rw [rd_l1 l i hlt, rd_at _ j hjt, wsucc hjt (by omega), List.drop_eq_getElem_cons hjt]
        refine ev_pos (by omega) (ev_pos (by omega) ?_)
        unfold idx
        by_cases e1 : l[i][j] = v
        · rw [if_pos e1, if_pos (by omega)]
          exact ev_pos e1 (ev_const rfl)
        · rw [if_neg e1]
          exact ev_neg e1 (ihe (j + 1) (by omega))
    unfold find
    exact inner l[i].length 0 (by omega)
theorem index_l (l : List Int) (v : Int) (hn : l.length ≤ 1048576) : ∀ d i, i + d = l.length → Ev (fun k => slices_Index_int_int.l0 k l v (l.length : Int) (i : Int)) (idx v (l.drop i) i) := by
  intro d
  induction d with
  | zero =>
    intro i hi
    refine Ev.step (fun k => by simp only [slices_Index_int_int.l0]; rfl) ?_
    refine ev_neg (by omega) (ev_const ?_)
    rw [List.drop_of_length_le (by omega)]; rfl
  | succ d ih =>
    intro i hi
    have hlt : i < l.length := by omega
    refine Ev.step (fun k => by simp only [slices_Index_int_int.l0]; rfl) ?_
    rw [rd_at l i hlt, wsucc hlt (by omega), List.drop_eq_getElem_cons hlt]
    refine ev_pos (by omega) (ev_pos (by omega) (ev_pos (by omega) ?_))
    unfold idx
    by_cases e : l[i] = v
    · rw [if_pos e]; exact ev_pos e.symm (ev_const rfl)
    · rw [if_neg e]; exact ev_neg (Ne.symm e) (ih (i + 1) (by omega))
theorem index_ev (l : List Int) (v : Int) (hn : l.length ≤ 1048576) : Ev (fun k => slices_Index_int_int.f k l v) (idx v l 0) := by
  unfold slices_Index_int_int.f
  exact index_l l v hn l.length 0 (by omega)
theorem find_impl (v : Int) (l : List (List Int)) (hn : l.length ≤ 1048576) (hx : ∀ x, x ∈ l → x.length ≤ 1048576) : ∀ d i, i + d = l.length → Ev (fun k => impl_placeOf.l0 k v l (l.length : Int) (i : Int)) (find v (l.drop i) i) := by
  intro d
  induction d with
  | zero =>
    intro i hi
    refine Ev.step (fun k => by simp only [impl_placeOf.l0]; rfl) ?_
    refine ev_neg (by omega) (ev_const ?_)
    rw [List.drop_of_length_le (by omega)]; rfl
  | succ d ih =>
    intro i hi
    have hlt : i < l.length := by omega
    refine Ev.step (fun k => by simp only [impl_placeOf.l0]; rfl) ?_
    rw [rd_l1 l i hlt, wsucc hlt (by omega), List.drop_eq_getElem_cons hlt]
    refine ev_pos (by omega) (ev_pos (by omega) (ev_pos (by omega) ?_))
    refine Ev.bind (index_ev _ _ (hx _ (List.getElem_mem hlt))) ?_
    unfold find
    by_cases e : 0 ≤ idx v l[i] 0
    · rw [if_pos e]; exact ev_pos e (ev_const rfl)
    · rw [if_neg e]; exact ev_neg e (ih (i + 1) (by omega))
end Go.Proofs.Ytdooakhjaffcdaa.UB
namespace Go.Proofs.Ytdooakhjaffcdaa.UB
open Go.RowKit Go.Proofs.YtdooakhjaffcdaaW.PrintWords Go.Proofs.YtdooakhjaffcdaaW.PrintMore Go.Proofs.Ytdooakhjaffcdaa.P Go.Proofs.Ytdooakhjaffcdaa.U Go.Proofs.Ytdooakhjaffcdaa.UT
set_option linter.unusedVariables false

/-- The last number of a row, and the row without it. -/
def top (r : List Int) : Int := rd r ((r.length : Int) - 1)
def cutR (l : List (List Int)) (a : Int) : List (List Int) := l.set a.toNat ((rd_L2 l a).take ((rd_L2 l a).length - 1))
theorem cutR_len (l : List (List Int)) (a : Int) : (cutR l a).length = l.length := by simp [cutR]
theorem cutR_rows {l : List (List Int)} {a : Int} {c : Nat} (h : ∀ x, x ∈ l → x.length ≤ c) (h0 : 0 ≤ a) (h1 : a < (l.length : Int)) : ∀ x, x ∈ cutR l a → x.length ≤ c := by
  intro x hx
  rcases List.mem_or_eq_of_mem_set hx with h2 | rfl
  · exact h x h2
  · rw [List.length_take]; have := h _ (rdl_mem h0 h1); omega
theorem wlast {n : Nat} (h : 0 < n) (hn : n ≤ 1048576) : wrap64 ((n : Int) - 1) = (n : Int) - 1 ∧ ((n : Int) - 1).toNat = n - 1 := ⟨wr (by omega) (by omega), by omega⟩
theorem top_impl (r : List Int) (h : 0 < r.length) (hn : r.length ≤ 1048576) : impl_topOf.f r = some (top r) := by
  unfold impl_topOf.f top
  rw [(wlast h hn).1, if_neg (by omega), if_pos (by omega), if_pos (by omega)]
end Go.Proofs.Ytdooakhjaffcdaa.UB
namespace Go.Proofs.Ytdooakhjaffcdaa.UB
open Go.RowKit Go.Proofs.YtdooakhjaffcdaaW.PrintWords Go.Proofs.YtdooakhjaffcdaaW.PrintMore Go.Proofs.Ytdooakhjaffcdaa.P Go.Proofs.Ytdooakhjaffcdaa.U Go.Proofs.Ytdooakhjaffcdaa.UT
set_option linter.unusedVariables false

/-! A copy. -/
theorem own1_spec (l : List Int) (hn : l.length ≤ 1048576) : spec_l1Own.f l = some l := by
  unfold spec_l1Own.f
  show (if ([] : List Int).length + l.length < 17592186044416 then some ([] ++ l) else none) = some l
  rw [if_pos (by simp; omega)]; rfl
theorem own1_impl (l : List Int) (hn : l.length ≤ 1048576) : slices_Clone_int_int.f l = some l := by
  unfold slices_Clone_int_int.f
  rw [if_pos (by omega)]
theorem own_spec_l (h : Int) (l : List (List Int)) (hn : l.length ≤ 1048576) (hx : ∀ x, x ∈ l → x.length ≤ 1048576) : ∀ d i, i + d = l.length → Ev (fun k => spec_l9Own.l0 k (i : Int) h l h (l.take i)) (h, l) := by
  intro d
  induction d with
  | zero =>
    intro i hi
    refine Ev.step (fun k => by simp only [spec_l9Own.l0]; rfl) (ev_neg (by omega) (ev_const ?_))
    rw [List.take_of_length_le (by omega)]
  | succ d ih =>
    intro i hi
    have hlt : i < l.length := by omega
    refine Ev.step (fun k => by simp only [spec_l9Own.l0]; rfl) (ev_pos (by omega) (ev_pos (by omega) ?_))
    rw [rd_l1 l i hlt, wsucc hlt (by omega)]
    refine ev_call (own1_spec _ (hx _ (List.getElem_mem hlt))) (ev_pos (by rw [List.length_take]; omega) ?_)
    have h := ih (i + 1) (by omega)
    rw [List.take_succ_eq_append_getElem hlt] at h
    exact h
theorem own_spec (h : Int) (l : List (List Int)) (hn : l.length ≤ 1048576) (hx : ∀ x, x ∈ l → x.length ≤ 1048576) : Ev (fun k => spec_l9Own.f k h l) (h, l) := by
  unfold spec_l9Own.f
  exact own_spec_l h l hn hx l.length 0 (by omega)
theorem own_impl_l (h : Int) (l : List (List Int)) (hn : l.length ≤ 1048576) (hx : ∀ x, x ∈ l → x.length ≤ 1048576) : ∀ d i, i + d = l.length → Ev (fun k => impl_ownBay.l0 k l (l.length : Int) (i : Int) h (l.take i)) (h, l) := by
  intro d
  induction d with
  | zero =>
    intro i hi
    refine Ev.step (fun k => by simp only [impl_ownBay.l0]; rfl) (ev_neg (by omega) (ev_const ?_))
    rw [List.take_of_length_le (by omega)]
  | succ d ih =>
    intro i hi
    have hlt : i < l.length := by omega
    refine Ev.step (fun k => by simp only [impl_ownBay.l0]; rfl) (ev_pos (by omega) (ev_pos (by omega) (ev_pos (by omega) ?_)))
    rw [rd_l1 l i hlt, wsucc hlt (by omega)]
    refine ev_call (own1_impl _ (hx _ (List.getElem_mem hlt))) (ev_pos (by rw [List.length_take]; omega) ?_)
    have h := ih (i + 1) (by omega)
    rw [List.take_succ_eq_append_getElem hlt] at h
    exact h
theorem own_impl (h : Int) (l : List (List Int)) (hn : l.length ≤ 1048576) (hx : ∀ x, x ∈ l → x.length ≤ 1048576) : Ev (fun k => impl_ownBay.f k h l) (h, l) := by
  unfold impl_ownBay.f
  exact own_impl_l h l hn hx l.length 0 (by omega)
end Go.Proofs.Ytdooakhjaffcdaa.UB
namespace Go.Proofs.Ytdooakhjaffcdaa.UK
open Go.RowKit Go.Proofs.YtdooakhjaffcdaaW.PrintWords Go.Proofs.YtdooakhjaffcdaaW.PrintMore Go.Proofs.Ytdooakhjaffcdaa.P Go.Proofs.Ytdooakhjaffcdaa.U Go.Proofs.Ytdooakhjaffcdaa.UT
set_option linter.unusedVariables false

def sumL : List (List Int) → Int
  | [] => 0
  | r :: l => (r.length : Int) + sumL l
theorem sumL_cons (r : List Int) (l : List (List Int)) : sumL (r :: l) = (r.length : Int) + sumL l := rfl
theorem sumL_pos : ∀ (l : List (List Int)), 0 ≤ sumL l
  | [] => Int.le_refl 0
  | r :: l => by have := sumL_pos l; unfold sumL; omega
theorem sumL_le (c : Nat) : ∀ (l : List (List Int)), (∀ x, x ∈ l → x.length ≤ c) → sumL l ≤ (l.length : Int) * (c : Int)
  | [], _ => by simp [sumL]
  | r :: l, h => by
    have h1 := sumL_le c l (fun x hx => h x (List.mem_cons_of_mem _ hx))
    have h2 := h r List.mem_cons_self
    unfold sumL
    rw [List.length_cons, show ((l.length + 1 : Nat) : Int) * (c : Int) = (l.length : Int) * (c : Int) + c by rw [Int.natCast_add, Int.add_mul]; simp]
    omega
end Go.Proofs.Ytdooakhjaffcdaa.UK
namespace Go.Proofs.Ytdooakhjaffcdaa.UB
open Go.RowKit Go.Proofs.YtdooakhjaffcdaaW.PrintWords Go.Proofs.YtdooakhjaffcdaaW.PrintMore Go.Proofs.Ytdooakhjaffcdaa.P Go.Proofs.Ytdooakhjaffcdaa.U Go.Proofs.Ytdooakhjaffcdaa.UT
set_option linter.unusedVariables false

theorem idx_in (v : Int) : ∀ (l : List Int) (i : Nat), idx v l i = -1 ∨ ∃ t : Nat, t < l.length ∧ idx v l i = ((i + t : Nat) : Int)
  | [], _ => .inl rfl
  | x :: l, i => by
    unfold idx
    split
    · exact .inr ⟨0, by simp, rfl⟩
    · rcases idx_in v l (i + 1) with h | ⟨t, h1, h2⟩
      · exact .inl h
      · exact .inr ⟨t + 1, by simp; omega, by rw [h2]; congr 1; omega⟩
theorem find_in (v : Int) : ∀ (l : List (List Int)) (i : Nat), find v l i = (-1, -1) ∨ ∃ (r t : Nat) (hr : r < l.length), t < l[r].length ∧ find v l i = (((i + r : Nat) : Int), (t : Int))
  | [], _ => .inl rfl
  | x :: l, i => by
    unfold find
    rcases idx_in v x 0 with h | ⟨t, h1, h2⟩
    · rw [if_neg (by omega)]
      rcases find_in v l (i + 1) with h3 | ⟨r, t, hr, h4, h5⟩
      · exact .inl h3
      · exact .inr ⟨r + 1, t, by simp; omega, by simpa using h4, by rw [h5]; congr 2; omega⟩
    · rw [if_pos (by omega)]
      exact .inr ⟨0, t, by simp, by simpa using h1, by rw [h2]; simp⟩
def cntNot (pre : List Int) : List Int → Int → Int
  | [], s => s
  | x :: l, s => cntNot pre l (if pre.contains x = true then s else wrap64 (s + 1))
def okOrd (l : List (List Int)) : List Int → List Int → Bool
  | _, [] => true
  | pre, x :: xs => if (find x l 0).1 < 0 then false else (if pre.contains x = true then false else okOrd l (pre ++ [x]) xs)
def ovr (l : List (List Int)) : List Int → List Int → List Int → List Int
  | _, [], acc => acc
  | pre, x :: xs, acc => ovr l (pre ++ [x]) xs (acc ++ [cntNot pre ((rd_L2 l (find x l 0).1).drop ((find x l 0).2 + 1).toNat) 0])
theorem ovr_len (l : List (List Int)) : ∀ (xs pre acc : List Int), (ovr l pre xs acc).length = acc.length + xs.length
  | [], _, acc => by simp [ovr]
  | x :: xs, pre, acc => by rw [ovr, ovr_len l xs, List.length_append, List.length_singleton, List.length_cons]; omega
theorem ord_l (h : Int) (l : List (List Int)) (hn : l.length ≤ 1048576) (hx : ∀ x, x ∈ l → x.length ≤ 1048576) (a : List Int) (ha : a.length ≤ 1048576) : ∀ d i, i + d = a.length →
    Ev (fun k => spec_l9Order.l0 k a (a.take i) (i : Int) h l) (okOrd l (a.take i) (a.drop i)) := by
  intro d
  induction d with
  | zero =>
    intro i hi
    refine Ev.step (fun k => by simp only [spec_l9Order.l0]; rfl) (ev_neg (by omega) (ev_const ?_))
    rw [List.drop_of_length_le (by omega)]; rfl
  | succ d ih =>
    intro i hi
    have hlt : i < a.length := by omega
    refine Ev.step (fun k => by simp only [spec_l9Order.l0]; rfl) (ev_pos (by omega) (ev_pos (by omega) ?_))
    rw [rd_at a i hlt, wsucc hlt (by omega), List.drop_eq_getElem_cons hlt]
    refine Ev.bind (show Ev (fun k => spec_l9Find.f k h l a[i]) (find a[i] l 0) from find_spec h a[i] l hn hx l.length 0 (by omega)) ?_
    unfold okOrd
    by_cases h1 : (find a[i] l 0).1 < 0
    · rw [if_pos h1]; exact ev_pos h1 (ev_const rfl)
    · rw [if_neg h1]
      refine ev_neg h1 (Ev.bind (has_ev (a.take i) a[i] (by rw [List.length_take]; omega)) ?_)
      have hi2 := ih (i + 1) (by omega)
      rw [List.take_succ_eq_append_getElem hlt] at hi2
      cases h3 : (a.take i).contains a[i]
      · rw [if_neg (by simp)]
        exact ev_neg (by simp) (ev_pos (by rw [List.length_take]; omega) hi2)
      · rw [if_pos rfl]
        exact ev_pos rfl (ev_const rfl)
theorem ovs_l (h : Int) (l : List (List Int)) (hn : l.length ≤ 1048576) (hx : ∀ x, x ∈ l → x.length ≤ 1048576) (a : List Int) (ha : a.length ≤ 1048576) : ∀ d i (acc : List Int), i + d = a.length → acc.length ≤ i → okOrd l (a.take i) (a.drop i) = true →
    Ev (fun k => spec_l9Overstows.l0 k a acc (i : Int) h l) (ovr l (a.take i) (a.drop i) acc) := by
  intro d
  induction d with
  | zero =>
    intro i acc hi hc hk
    refine Ev.step (fun k => by simp only [spec_l9Overstows.l0]; rfl) (ev_neg (by omega) (ev_const ?_))
    rw [List.drop_of_length_le (by omega)]; rfl
  | succ d ih =>
    intro i acc hi hc hk
    have hlt : i < a.length := by omega
    refine Ev.step (fun k => by simp only [spec_l9Overstows.l0]; rfl) (ev_pos (by omega) (ev_pos (by omega) ?_))
    rw [List.drop_eq_getElem_cons hlt] at hk ⊢
    unfold okOrd at hk
    unfold ovr
    rw [rd_at a i hlt]
    refine Ev.bind (show Ev (fun k => spec_l9Find.f k h l a[i]) (find a[i] l 0) from find_spec h a[i] l hn hx l.length 0 (by omega)) ?_
    split at hk
    · cases hk
    rename_i h1
    split at hk
    · cases hk
    rename_i h2
    rcases find_in a[i] l 0 with hf | ⟨r, t, hr, ht, hf⟩
    · rw [hf] at h1; exact absurd (show (-1 : Int) < 0 by omega) h1
    rw [hf, Nat.zero_add]
    have hxr := hx _ (List.getElem_mem hr)
    have hi2 := fun acc hc => ih (i + 1) acc (by omega) hc (by rw [List.take_succ_eq_append_getElem hlt]; exact hk)
    rw [List.take_succ_eq_append_getElem hlt] at hi2
    have inner : ∀ e j (s : Int), j + e = l[r].length → Ev (fun k => spec_l9Overstows.l1 k a acc (i : Int) (r : Int) s (j : Int) h l) (ovr l (a.take i ++ [a[i]]) (a.drop (i + 1)) (acc ++ [cntNot (a.take i) (l[r].drop j) s])) := by
      intro e
      induction e with
      | zero =>
        intro j s hj
        refine Ev.step (fun k => by simp only [spec_l9Overstows.l1]; rfl) (ev_pos (by omega) (ev_pos (by omega) ?_))
        rw [rd_l1 l r hr, wsucc hlt (by omega), List.drop_of_length_le (show l[r].length ≤ j by omega)]
        exact ev_neg (by omega) (ev_pos (by omega) (hi2 _ (by rw [List.length_append, List.length_singleton]; omega)))
      | succ e ihe =>
        intro j s hj
        have hjt : j < l[r].length := by omega
        refine Ev.step (fun k => by simp only [spec_l9Overstows.l1]; rfl) (ev_pos (by omega) (ev_pos (by omega) ?_))
        rw [rd_l1 l r hr, rd_at _ j hjt, wsucc hjt (by omega), Int.toNat_natCast, List.drop_eq_getElem_cons hjt]
        refine ev_pos (by omega) (ev_pos (by omega) (ev_pos (by omega) (ev_pos (by omega) (Ev.bind (has_ev (a.take i) l[r][j] (by rw [List.length_take]; omega)) ?_))))
        unfold cntNot
        cases h3 : (a.take i).contains l[r][j]
        · rw [if_neg (by simp)]
          exact ev_neg (by simp) (ihe (j + 1) _ (by omega))
        · rw [if_pos rfl]
          exact ev_pos rfl (ihe (j + 1) _ (by omega))
    have hh := inner (l[r].length - (t + 1)) (t + 1) 0 (by omega)
    show Ev (fun k => spec_l9Overstows.l1 k a acc (i : Int) (r : Int) 0 (wrap64 ((t : Int) + 1)) h l) _
    rw [wsucc ht (by omega), show rd_L2 l ((r : Nat) : Int) = l[r] from rd_l1 l r hr, show ((t : Int) + 1).toNat = t + 1 by omega]
    exact hh
theorem has_impl (l : List Int) (v : Int) (hn : l.length ≤ 1048576) : Ev (fun k => slices_Contains_int_int.f k l v) (l.contains v) := by
  unfold slices_Contains_int_int.f
  refine Ev.bind (index_ev l v hn) (ev_const ?_)
  have key : ∀ (l : List Int) (i : Nat), decide (idx v l i ≥ 0) = l.contains v := by
    intro l
    induction l with
    | nil => intro i; simp [idx]
    | cons x l ih =>
      intro i
      unfold idx
      rw [List.contains_cons]
      by_cases h : x = v
      · rw [if_pos h, show (v == x) = true by simp [h]]; simp
      · rw [if_neg h, ih, show (v == x) = false by simp; omega]; rfl
  rw [key l 0]
theorem ovi_l (h : Int) (l : List (List Int)) (hn : l.length ≤ 1048576) (hx : ∀ x, x ∈ l → x.length ≤ 1048576) (a : List Int) (ha : a.length ≤ 1048576) : ∀ d i (acc : List Int), i + d = a.length → acc.length ≤ i →
    Ev (fun k => impl_OverstowsOf.l0 k a acc a (a.length : Int) (i : Int) h l) (if okOrd l (a.take i) (a.drop i) = true then (ovr l (a.take i) (a.drop i) acc, true) else ([], false)) := by
  intro d
  induction d with
  | zero =>
    intro i acc hi hc
    refine Ev.step (fun k => by simp only [impl_OverstowsOf.l0]; rfl) (ev_neg (by omega) (ev_const ?_))
    rw [List.drop_of_length_le (by omega)]; rfl
  | succ d ih =>
    intro i acc hi hc
    have hlt : i < a.length := by omega
    refine Ev.step (fun k => by simp only [impl_OverstowsOf.l0]; rfl) (ev_pos (by omega) (ev_pos (by omega) (ev_pos (by omega) ?_)))
    rw [List.drop_eq_getElem_cons hlt]
    unfold okOrd ovr
    rw [rd_at a i hlt]
    have hfi : Ev (fun k => impl_slotOf.f k h l a[i]) (find a[i] l 0) := by
      unfold impl_slotOf.f
      exact Ev.bind (show Ev (fun k => impl_placeOf.f k l a[i]) (find a[i] l 0) from find_impl a[i] l hn hx l.length 0 (by omega)) (ev_const rfl)
    refine Ev.bind hfi ?_
    by_cases h1 : (find a[i] l 0).1 < 0
    · rw [if_pos h1, if_neg (by simp)]
      refine ev_pos h1 (Ev.step (fun k => by simp only [impl_OverstowsOf.j1]; rfl) ?_)
      exact ev_pos trivial (ev_const rfl)
    rw [if_neg h1]
    refine ev_neg h1 (ev_pos (by omega) ?_)
    rw [Int.toNat_natCast]
    refine Ev.bind (has_impl (a.take i) a[i] (by rw [List.length_take]; omega)) ?_
    cases h2 : (a.take i).contains a[i]
    · rw [if_neg (show ¬ (false = true) by simp)]
      refine Ev.step (fun k => by simp only [impl_OverstowsOf.j1]; rfl) (ev_neg (by simp) ?_)
      rcases find_in a[i] l 0 with hf | ⟨r, t, hr, ht, hf⟩
      · rw [hf] at h1; exact absurd (show (-1 : Int) < 0 by omega) h1
      rw [hf, Nat.zero_add]
      have hxr := hx _ (List.getElem_mem hr)
      have hi2 := fun acc hc => ih (i + 1) acc (by omega) hc
      rw [List.take_succ_eq_append_getElem hlt] at hi2
      have e1 : rd_L2 l ((r : Nat) : Int) = l[r] := rd_l1 l r hr
      have inner : ∀ (q : List Int) (hq : q.length ≤ 1048576) e j (s : Int), j + e = q.length → Ev (fun k => impl_OverstowsOf.l1 k a acc (i : Int) s a (a.length : Int) (i : Int) q (q.length : Int) (j : Int) h l) (if okOrd l (a.take i ++ [a[i]]) (a.drop (i + 1)) = true then (ovr l (a.take i ++ [a[i]]) (a.drop (i + 1)) (acc ++ [cntNot (a.take i) (q.drop j) s]), true) else ([], false)) := by
        intro q hq e
        induction e with
        | zero =>
          intro j s hj
          refine Ev.step (fun k => by simp only [impl_OverstowsOf.l1]; rfl) (ev_neg (by omega) (ev_pos (by omega) ?_))
          rw [wsucc hlt (by omega), List.drop_of_length_le (show q.length ≤ j by omega)]
          exact hi2 _ (by rw [List.length_append, List.length_singleton]; omega)
        | succ e ihe =>
          intro j s hj
          have hjt : j < q.length := by omega
          refine Ev.step (fun k => by simp only [impl_OverstowsOf.l1]; rfl) (ev_pos (by omega) (ev_pos (by omega) (ev_pos (by omega) (ev_pos (by omega) (ev_pos (by omega) ?_)))))
          rw [rd_at q j hjt, wsucc hjt (by omega), Int.toNat_natCast, List.drop_eq_getElem_cons hjt]
          refine Ev.bind (has_impl (a.take i) q[j] (by rw [List.length_take]; omega)) ?_
          unfold cntNot
          cases h3 : (a.take i).contains q[j]
          · rw [if_neg (show ¬ (false = true) by simp)]
            exact ev_neg (by simp) (ihe (j + 1) _ (by omega))
          · rw [if_pos (show true = true from rfl)]
            exact ev_pos rfl (ihe (j + 1) _ (by omega))
      have hh := inner (l[r].drop (t + 1)) (by rw [List.length_drop]; omega) (l[r].drop (t + 1)).length 0 0 (by omega)
      rw [List.drop_zero] at hh
      show Ev (fun k => if 0 ≤ ((r : Nat) : Int) then (if ((r : Nat) : Int) < (l.length : Int) then (if 0 ≤ wrap64 ((t : Int) + 1) then (if wrap64 ((t : Int) + 1) ≤ ((rd_L2 l ((r : Nat) : Int)).length : Int) then impl_OverstowsOf.l1 k a acc (i : Int) 0 a (a.length : Int) (i : Int) ((rd_L2 l ((r : Nat) : Int)).drop (wrap64 ((t : Int) + 1)).toNat) (((rd_L2 l ((r : Nat) : Int)).drop (wrap64 ((t : Int) + 1)).toNat).length : Int) 0 h l else none) else none) else none) else none) _
      rw [e1, wsucc ht (by omega), Int.toNat_natCast, show ((t : Int) + 1).toNat = t + 1 by omega]
      exact ev_pos (by omega) (ev_pos (by omega) (ev_pos (by omega) (ev_pos (by omega) hh)))
    · rw [if_pos (show true = true from rfl), if_neg (by simp)]
      refine Ev.step (fun k => by simp only [impl_OverstowsOf.j1]; rfl) ?_
      exact ev_pos trivial (ev_const rfl)
end Go.Proofs.Ytdooakhjaffcdaa.UB
namespace Go.Proofs.Ytdooakhjaffcdaa.UB
open Go.RowKit Go.Proofs.YtdooakhjaffcdaaW.PrintWords Go.Proofs.YtdooakhjaffcdaaW.PrintMore Go.Proofs.Ytdooakhjaffcdaa.P Go.Proofs.Ytdooakhjaffcdaa.U Go.Proofs.Ytdooakhjaffcdaa.UT
set_option linter.unusedVariables false

def upB (l : List (List Int)) (b : Int) (i : Nat) : Int := if (rd_L2 l i).length > 0 ∧ (b < 0 ∨ top (rd_L2 l i) < top (rd_L2 l b)) then i else b
def bst (l : List (List Int)) : Nat → Nat → Int → Int
  | 0, _, b => b
  | d + 1, i, b => bst l d (i + 1) (upB l b i)
def roomy (l : List (List Int)) (b : Int) : Prop := b < 0 ∨ (b < (l.length : Int) ∧ 0 < (rd_L2 l b).length)
theorem upB_roomy {l : List (List Int)} {b : Int} {i : Nat} (hi : i < l.length) (hb : roomy l b) : roomy l (upB l b i) := by
  unfold upB
  split
  · rename_i h; exact Or.inr ⟨by omega, h.1⟩
  · exact hb
theorem bst_roomy {l : List (List Int)} : ∀ d i (b : Int), i + d = l.length → roomy l b → roomy l (bst l d i b)
  | 0, _, _, _, hb => hb
  | d + 1, i, b, hi, hb => bst_roomy d (i + 1) _ (by omega) (upB_roomy (by omega) hb)
def co : Nat → List (List Int) → List Int → List Int
  | 0, _, out => out
  | n + 1, l, out => if bst l l.length 0 (-1) < 0 then out else co n (cutR l (bst l l.length 0 (-1))) (out ++ [top (rd_L2 l (bst l l.length 0 (-1)))])
theorem co_len : ∀ (n : Nat) (l : List (List Int)) (out : List Int), (co n l out).length ≤ out.length + n
  | 0, _, _ => Nat.le_refl _
  | n + 1, l, out => by
    unfold co
    split
    · omega
    · refine Nat.le_trans (co_len n _ _) ?_
      rw [List.length_append, List.length_singleton]; omega
theorem sumL_ge : ∀ {l : List (List Int)} {r : List Int}, r ∈ l → (r.length : Int) ≤ UK.sumL l
  | x :: l, r, h => by
    rw [UK.sumL_cons]
    have h0 := UK.sumL_pos l
    rcases List.mem_cons.mp h with rfl | h
    · omega
    · have := sumL_ge h; omega
theorem sumL_set : ∀ (l : List (List Int)) (i : Nat) (h : i < l.length) (r : List Int), UK.sumL (l.set i r) = UK.sumL l - (l[i].length : Int) + (r.length : Int)
  | x :: l, 0, h, r => by
    rw [List.set_cons_zero, UK.sumL_cons, UK.sumL_cons, List.getElem_cons_zero]; omega
  | x :: l, i + 1, h, r => by
    rw [List.set_cons_succ, UK.sumL_cons, UK.sumL_cons, List.getElem_cons_succ, sumL_set l i (by simpa using h) r]; omega
theorem cutR_sum {l : List (List Int)} {a : Int} (h0 : 0 ≤ a) (h1 : a < (l.length : Int)) (h2 : 0 < (rd_L2 l a).length) : UK.sumL (cutR l a) = UK.sumL l - 1 := by
  obtain ⟨n, rfl⟩ := Int.eq_ofNat_of_zero_le h0
  have h : n < l.length := by omega
  have e : rd_L2 l (n : Int) = l[n] := rd_l1 l n h
  unfold cutR
  show UK.sumL (l.set (n : Int).toNat ((rd_L2 l (n : Int)).take ((rd_L2 l (n : Int)).length - 1))) = _
  have h3 : 0 < (rd_L2 l (n : Int)).length := h2
  rw [e] at h3 ⊢
  rw [Int.toNat_natCast, sumL_set l n h, List.length_take]
  omega
theorem cl_spec (hh : Int) : ∀ (n : Nat) (l : List (List Int)) (out : List Int), l.length ≤ 5 → (∀ x, x ∈ l → x.length ≤ 4) → UK.sumL l ≤ n → out.length + n ≤ 1048576 → Ev (fun k => spec_ClearOrder.l0 k out hh l) (co n l out, true) := by
  intro n
  induction n with
  | zero =>
    intro l out hl h4 hs ho
    refine Ev.step (fun k => by simp only [spec_ClearOrder.l0]; rfl) ?_
    have inner : ∀ d i (b : Int), i + d = l.length → b = -1 → Ev (fun k => spec_ClearOrder.l1 k out b (i : Int) hh l) (out, true) := by
      intro d
      induction d with
      | zero =>
        intro i b hi hb
        exact Ev.step (fun k => by simp only [spec_ClearOrder.l1]; rfl) (ev_neg (by omega) (ev_pos (by omega) (ev_const rfl)))
      | succ d ih =>
        intro i b hi hb
        have hlt : i < l.length := by omega
        refine Ev.step (fun k => by simp only [spec_ClearOrder.l1]; rfl) (ev_pos (by omega) (ev_pos (by omega) ?_))
        have h0 := sumL_ge (rdl_mem (l := l) (s := (i : Int)) (by omega) (by omega))
        rw [wsucc hlt (by omega)]
        exact ev_neg (by omega) (ih (i + 1) b (by omega) hb)
    exact inner l.length 0 (-1) (by omega) rfl
  | succ n ihn =>
    intro l out hl h4 hs ho
    refine Ev.step (fun k => by simp only [spec_ClearOrder.l0]; rfl) ?_
    have inner : ∀ d i (b : Int), i + d = l.length → roomy l b → Ev (fun k => spec_ClearOrder.l1 k out b (i : Int) hh l) (if bst l d i b < 0 then out else co n (cutR l (bst l d i b)) (out ++ [top (rd_L2 l (bst l d i b))]), true) := by
      intro d
      induction d with
      | zero =>
        intro i b hi hb
        refine Ev.step (fun k => by simp only [spec_ClearOrder.l1]; rfl) (ev_neg (by omega) ?_)
        unfold bst
        by_cases h0 : b < 0
        · rw [if_pos h0]; exact ev_pos h0 (ev_const rfl)
        · rw [if_neg h0]
          rcases hb with hb | ⟨hb, hr⟩
          · exact absurd hb h0
          have hr4 := h4 _ (rdl_mem (l := l) (s := b) (by omega) hb)
          obtain ⟨w1, w2⟩ := wlast (n := (rd_L2 l b).length) hr (by omega)
          rw [w1, w2]
          refine ev_neg h0 (ev_pos (by omega) (ev_pos hb (ev_pos (by omega) (ev_pos (by omega) (ev_pos (by omega) (ev_pos (by omega) ?_))))))
          exact ihn _ _ (by rw [List.length_set]; exact hl) (cutR_rows h4 (by omega) hb) (by have := cutR_sum (l := l) (a := b) (by omega) hb hr; unfold cutR at this; omega) (by rw [List.length_append, List.length_singleton]; omega)
      | succ d ih =>
        intro i b hi hb
        have hlt : i < l.length := by omega
        refine Ev.step (fun k => by simp only [spec_ClearOrder.l1]; rfl) (ev_pos (by omega) (ev_pos (by omega) ?_))
        have hi4 := h4 _ (rdl_mem (l := l) (s := (i : Int)) (by omega) (by omega))
        have hu := ih (i + 1) (upB l b i) (by omega) (upB_roomy hlt hb)
        rw [wsucc hlt (by omega)]
        unfold bst
        by_cases h1 : (rd_L2 l i).length > 0
        · refine ev_pos (by omega) ?_
          by_cases h2 : b < 0
          · rw [show upB l b i = (i : Int) from if_pos ⟨h1, Or.inl h2⟩] at hu ⊢
            exact ev_pos h2 hu
          · rcases hb with hb | ⟨hb, hr⟩
            · exact absurd hb h2
            have hr4 := h4 _ (rdl_mem (l := l) (s := b) (by omega) hb)
            obtain ⟨w1, _⟩ := wlast (n := (rd_L2 l i).length) h1 (by omega)
            obtain ⟨v1, _⟩ := wlast (n := (rd_L2 l b).length) hr (by omega)
            rw [w1, v1]
            refine ev_neg h2 (ev_pos (by omega) (ev_pos (by omega) (ev_pos (by omega) (ev_pos hb (ev_pos (by omega) (ev_pos (by omega) ?_))))))
            by_cases h3 : top (rd_L2 l i) < top (rd_L2 l b)
            · rw [show upB l b i = (i : Int) from if_pos ⟨h1, Or.inr h3⟩] at hu ⊢
              exact ev_pos h3 hu
            · rw [show upB l b i = b from if_neg (fun hh => hh.2.elim h2 h3)] at hu ⊢
              exact ev_neg h3 hu
        · rw [show upB l b i = b from if_neg (fun hh => h1 hh.1)] at hu ⊢
          exact ev_neg (by omega) hu
    exact inner l.length 0 (-1) (by omega) (Or.inl (by omega))
theorem cl_impl (hh : Int) : ∀ (n : Nat) (l : List (List Int)) (out : List Int), l.length ≤ 5 → (∀ x, x ∈ l → x.length ≤ 4) → UK.sumL l ≤ n → out.length + n ≤ 1048576 → Ev (fun k => impl_ClearOrder.l0 k out hh l) (co n l out, true) := by
  intro n
  induction n with
  | zero =>
    intro l out hl h4 hs ho
    refine Ev.step (fun k => by simp only [impl_ClearOrder.l0]; rfl) ?_
    have inner : ∀ d i (b : Int), i + d = l.length → b = -1 → Ev (fun k => impl_ClearOrder.l1 k out b l (l.length : Int) (i : Int) hh l) (out, true) := by
      intro d
      induction d with
      | zero =>
        intro i b hi hb
        exact Ev.step (fun k => by simp only [impl_ClearOrder.l1]; rfl) (ev_neg (by omega) (ev_pos (by omega) (ev_const rfl)))
      | succ d ih =>
        intro i b hi hb
        have hlt : i < l.length := by omega
        refine Ev.step (fun k => by simp only [impl_ClearOrder.l1]; rfl) (ev_pos (by omega) (ev_pos (by omega) (ev_pos (by omega) ?_)))
        have h0 := sumL_ge (rdl_mem (l := l) (s := (i : Int)) (by omega) (by omega))
        rw [wsucc hlt (by omega)]
        exact ev_neg (by omega) (ih (i + 1) b (by omega) hb)
    exact inner l.length 0 (-1) (by omega) rfl
  | succ n ihn =>
    intro l out hl h4 hs ho
    refine Ev.step (fun k => by simp only [impl_ClearOrder.l0]; rfl) ?_
    have inner : ∀ d i (b : Int), i + d = l.length → roomy l b → Ev (fun k => impl_ClearOrder.l1 k out b l (l.length : Int) (i : Int) hh l) (if bst l d i b < 0 then out else co n (cutR l (bst l d i b)) (out ++ [top (rd_L2 l (bst l d i b))]), true) := by
      intro d
      induction d with
      | zero =>
        intro i b hi hb
        refine Ev.step (fun k => by simp only [impl_ClearOrder.l1]; rfl) (ev_neg (by omega) ?_)
        unfold bst
        by_cases h0 : b < 0
        · rw [if_pos h0]; exact ev_pos h0 (ev_const rfl)
        · rw [if_neg h0]
          rcases hb with hb | ⟨hb, hr⟩
          · exact absurd hb h0
          have hr4 := h4 _ (rdl_mem (l := l) (s := b) (by omega) hb)
          obtain ⟨w1, w2⟩ := wlast (n := (rd_L2 l b).length) hr (by omega)
          rw [w1, w2]
          refine ev_neg h0 (ev_pos (by omega) (ev_pos hb (ev_call (top_impl _ hr (by omega)) (ev_pos (by omega) (ev_pos (by omega) (ev_pos (by omega) ?_))))))
          exact ihn _ _ (by rw [List.length_set]; exact hl) (cutR_rows h4 (by omega) hb) (by have := cutR_sum (l := l) (a := b) (by omega) hb hr; unfold cutR at this; omega) (by rw [List.length_append, List.length_singleton]; omega)
      | succ d ih =>
        intro i b hi hb
        have hlt : i < l.length := by omega
        refine Ev.step (fun k => by simp only [impl_ClearOrder.l1]; rfl) (ev_pos (by omega) (ev_pos (by omega) (ev_pos (by omega) ?_)))
        have hi4 := h4 _ (rdl_mem (l := l) (s := (i : Int)) (by omega) (by omega))
        have hu := ih (i + 1) (upB l b i) (by omega) (upB_roomy hlt hb)
        rw [wsucc hlt (by omega)]
        unfold bst
        by_cases h1 : (rd_L2 l i).length > 0
        · refine ev_pos (by omega) ?_
          by_cases h2 : b < 0
          · rw [show upB l b i = (i : Int) from if_pos ⟨h1, Or.inl h2⟩] at hu ⊢
            exact ev_pos h2 hu
          · rcases hb with hb | ⟨hb, hr⟩
            · exact absurd hb h2
            have hr4 := h4 _ (rdl_mem (l := l) (s := b) (by omega) hb)
            refine ev_neg h2 (ev_call (top_impl _ h1 (by omega)) (ev_pos (by omega) (ev_pos hb (ev_call (top_impl _ hr (by omega)) ?_))))
            by_cases h3 : top (rd_L2 l i) < top (rd_L2 l b)
            · rw [show upB l b i = (i : Int) from if_pos ⟨h1, Or.inr h3⟩] at hu ⊢
              exact ev_pos h3 hu
            · rw [show upB l b i = b from if_neg (fun hh => hh.2.elim h2 h3)] at hu ⊢
              exact ev_neg h3 hu
        · rw [show upB l b i = b from if_neg (fun hh => h1 hh.1)] at hu ⊢
          exact ev_neg (by omega) hu
    exact inner l.length 0 (-1) (by omega) (Or.inl (by omega))
end Go.Proofs.Ytdooakhjaffcdaa.UB
namespace Go.Proofs.Ytdooakhjaffcdaa.UB
open Go.RowKit Go.Proofs.YtdooakhjaffcdaaW.PrintWords Go.Proofs.YtdooakhjaffcdaaW.PrintMore Go.Proofs.Ytdooakhjaffcdaa.P Go.Proofs.Ytdooakhjaffcdaa.U Go.Proofs.Ytdooakhjaffcdaa.UT
set_option linter.unusedVariables false

def bal (n : Nat) : List (List Int) → Nat → Int → Int
  | [], _, s => s
  | x :: l, i, s => bal n l (i + 1) (if 2 * i + 1 < n then wrap64 (s - (x.length : Int)) else if 2 * i + 1 > n then wrap64 (s + (x.length : Int)) else s)
theorem bal_spec (h : Int) (l : List (List Int)) (hn : l.length ≤ 1048576) : ∀ d i (s : Int), i + d = l.length → Ev (fun k => spec_BayBalance.l0 k s (l.length : Int) (i : Int) h l) (bal l.length (l.drop i) i s, true) := by
  intro d
  induction d with
  | zero =>
    intro i s hi
    refine Ev.step (fun k => by simp only [spec_BayBalance.l0]; rfl) ?_
    refine ev_neg (by omega) (ev_const ?_)
    rw [List.drop_of_length_le (by omega)]; rfl
  | succ d ih =>
    intro i s hi
    have hlt : i < l.length := by omega
    refine Ev.step (fun k => by simp only [spec_BayBalance.l0]; rfl) ?_
    rw [wsucc hlt (by omega), rd_l1 l i hlt, List.drop_eq_getElem_cons hlt, wr (x := 2 * (i : Int)) (by omega) (by omega), wr (x := 2 * (i : Int) + 1) (by omega) (by omega)]
    refine ev_pos (by omega) ?_
    unfold bal
    by_cases h1 : 2 * i + 1 < l.length
    · rw [if_pos h1]
      exact ev_pos (by omega) (ev_pos (by omega) (ev_pos (by omega) (ih (i + 1) _ (by omega))))
    rw [if_neg h1]
    by_cases h2 : 2 * i + 1 > l.length
    · rw [if_pos h2]
      exact ev_neg (by omega) (ev_pos (by omega) (ev_pos (by omega) (ev_pos (by omega) (ih (i + 1) _ (by omega)))))
    · rw [if_neg h2]
      exact ev_neg (by omega) (ev_neg (by omega) (ih (i + 1) _ (by omega)))
theorem bal_impl (l : List (List Int)) (hn : l.length ≤ 1048576) : ∀ d i (s : Int), i + d = l.length → Ev (fun k => impl_BayBalance.l0 k (l.length : Int) s l (l.length : Int) (i : Int)) (bal l.length (l.drop i) i s, true) := by
  have eh := half l.length (by omega)
  intro d
  induction d with
  | zero =>
    intro i s hi
    refine Ev.step (fun k => by simp only [impl_BayBalance.l0]; rfl) ?_
    refine ev_neg (by omega) (ev_const ?_)
    rw [List.drop_of_length_le (by omega)]; rfl
  | succ d ih =>
    intro i s hi
    have hlt : i < l.length := by omega
    refine Ev.step (fun k => by simp only [impl_BayBalance.l0]; rfl) ?_
    rw [wsucc hlt (by omega), rd_l1 l i hlt, List.drop_eq_getElem_cons hlt, eh.1, eh.2]
    refine ev_pos (by omega) (ev_pos (by omega) (ev_pos (by omega) ?_))
    unfold bal
    by_cases h1 : 2 * i + 1 < l.length
    · rw [if_pos h1]
      exact ev_pos (by omega) (ih (i + 1) _ (by omega))
    rw [if_neg h1]
    by_cases h2 : 2 * i + 1 > l.length
    · rw [if_pos h2]
      exact ev_neg (by omega) (ev_pos (by omega) (ih (i + 1) _ (by omega)))
    · rw [if_neg h2]
      exact ev_neg (by omega) (ev_neg (by omega) (ih (i + 1) _ (by omega)))
end Go.Proofs.Ytdooakhjaffcdaa.UB
namespace Go.Proofs.Ytdooakhjaffcdaa.UD
open Go.RowKit Go.Proofs.YtdooakhjaffcdaaW.PrintWords Go.Proofs.YtdooakhjaffcdaaW.PrintMore Go.Proofs.Ytdooakhjaffcdaa.P Go.Proofs.Ytdooakhjaffcdaa.U
set_option linter.unusedVariables false

def codeOk (c : List Int) : Prop := c.length ≤ 65536 ∧ ∀ x, x ∈ c → 0 ≤ x ∧ x ≤ 255
theorem wf_u8 {x : Int} (h : (Lit.int .u8 x).wf = true) : 0 ≤ x ∧ x ≤ 255 := by
  have h1 : (decide (IntKind.u8.min ≤ x) && decide (x ≤ IntKind.u8.max)) = true := h
  rw [Bool.and_eq_true, decide_eq_true_iff, decide_eq_true_iff] at h1
  exact h1
theorem wrap_u64 (n : Int) : IntKind.u64.wrap n = n % 18446744073709551616 := by simp [IntKind.wrap, IntKind.bits, IntKind.signed]
theorem u64_low (n : Int) : 0 ≤ wrap64 (Go.bits .and .u64 (IntKind.u64.wrap n / 1099511627776) 255) ∧ wrap64 (Go.bits .and .u64 (IntKind.u64.wrap n / 1099511627776) 255) ≤ 255 := by
  have h : IntKind.u64.wrap n = n % 18446744073709551616 := wrap_u64 n
  have e := bits_mask .u64 24 (by decide) (fun m h0 h1 => by rw [wrap_u64]; omega) 8 (by decide) (IntKind.u64.wrap n / 1099511627776) (by omega) (by omega)
  have e2 : Go.bits .and .u64 (IntKind.u64.wrap n / 1099511627776) 255 = IntKind.u64.wrap n / 1099511627776 % 256 := e
  rw [e2, wr (by omega) (by omega)]
  omega
theorem next_ev {c : List Int} (hc : codeOk c) {i s : Int} (hi : 0 ≤ i ∧ i ≤ 1000000000) : ∃ r s', spec_l1Cur_next.f c i s = some (r, i + 1, s') ∧ 0 ≤ r ∧ r ≤ 255 := by
  have hw : wrap64 (i + 1) = i + 1 := wr (by omega) (by omega)
  unfold spec_l1Cur_next.f
  rw [hw]
  by_cases h1 : i < (c.length : Int)
  · obtain ⟨n, rfl⟩ := Int.eq_ofNat_of_zero_le hi.1
    have hn : n < c.length := by omega
    have hb := hc.2 _ (List.getElem_mem hn)
    rw [if_pos h1, if_pos hi.1, if_pos (by omega), rd_at c n hn]
    exact ⟨_, _, rfl, by rw [wr (by omega) (by omega)]; exact hb⟩
  · rw [if_neg h1, if_neg (by have := hc.1; omega)]
    exact ⟨_, _, rfl, u64_low _⟩
theorem tmod_in {b n : Int} (hb : 0 ≤ b) (hn : 0 < n) : 0 ≤ Int.tmod b n ∧ Int.tmod b n < n := by
  rw [Int.tmod_eq_emod_of_nonneg hb]
  exact ⟨Int.emod_nonneg _ (by omega), Int.emod_lt_of_pos _ hn⟩
theorem pick_ev {c : List Int} (hc : codeOk c) {i s n : Int} (hi : 0 ≤ i ∧ i ≤ 999999990) : ∃ r j s', spec_l1Cur_pick.f c i s n = some (r, j, s') ∧ 0 ≤ r ∧ (r < n ∨ n ≤ 1 ∧ r = 0) ∧ i ≤ j ∧ j ≤ i + 2 := by
  unfold spec_l1Cur_pick.f
  by_cases h1 : n ≤ 1
  · rw [if_pos h1]
    exact ⟨0, i, s, rfl, by omega, Or.inr ⟨h1, rfl⟩, by omega, by omega⟩
  rw [if_neg h1]
  obtain ⟨r1, s1, e1, b1⟩ := next_ev hc (s := s) (i := i) (by omega)
  rw [e1, Option.bind_some]
  dsimp only
  by_cases h2 : n > 200
  · rw [if_pos h2]
    obtain ⟨r2, s2, e2, b2⟩ := next_ev hc (s := s1) (i := i + 1) (by omega)
    rw [e2, Option.bind_some]
    dsimp only
    rw [if_neg (by omega), wr (x := r1 * 256) (by omega) (by omega), wr (x := r1 * 256 + r2) (by omega) (by omega)]
    have := tmod_in (b := r1 * 256 + r2) (n := n) (by omega) (by omega)
    exact ⟨_, _, _, rfl, this.1, Or.inl this.2, by omega, by omega⟩
  · rw [if_neg h2, if_neg (by omega)]
    have := tmod_in (b := r1) (n := n) (by omega) (by omega)
    exact ⟨_, _, _, rfl, this.1, Or.inl this.2, by omega, by omega⟩
theorem among_ev {c : List Int} (hc : codeOk c) {i s : Int} (hi : 0 ≤ i ∧ i ≤ 999999990) (l : List Int) (hl : 0 < l.length) : ∃ r j s', spec_l1Cur_among.f c i s l = some (r, j, s') ∧ r ∈ l ∧ i ≤ j ∧ j ≤ i + 2 := by
  unfold spec_l1Cur_among.f
  obtain ⟨r, j, s1, e, h0, h1, h2⟩ := pick_ev hc (s := s) (n := (l.length : Int)) hi
  rw [e, Option.bind_some]
  dsimp only
  have hr : r < (l.length : Int) := by rcases h1 with h1 | h1 <;> omega
  rw [if_pos h0, if_pos hr]
  obtain ⟨n, rfl⟩ := Int.eq_ofNat_of_zero_le h0
  have hn : n < l.length := by omega
  exact ⟨_, _, _, rfl, by rw [rd_at l n hn]; exact List.getElem_mem hn, h2⟩
end Go.Proofs.Ytdooakhjaffcdaa.UD
namespace Go.Proofs.Ytdooakhjaffcdaa.UB
open Go.RowKit Go.Proofs.YtdooakhjaffcdaaW.PrintWords Go.Proofs.YtdooakhjaffcdaaW.PrintMore Go.Proofs.Ytdooakhjaffcdaa.P Go.Proofs.Ytdooakhjaffcdaa.U Go.Proofs.Ytdooakhjaffcdaa.UT Go.Proofs.Ytdooakhjaffcdaa.UD
set_option linter.unusedVariables false
theorem chkRow_once : ∀ (l s t : List Int), chkRow l s = some t → (∀ x, x ∈ t ↔ x ∈ s ∨ x ∈ l) ∧ l.Nodup ∧ ∀ x, x ∈ l → ¬ x ∈ s
  | [], s, t, h => by injection h with h; subst h; simp
  | n :: l, s, t, h => by
    unfold chkRow at h
    split at h
    · rename_i hc
      rw [Bool.and_eq_true] at hc
      have hn : ¬ n ∈ s := by simpa using hc.2
      obtain ⟨h1, h2, h3⟩ := chkRow_once l (n :: s) t h
      refine ⟨fun x => by rw [h1, List.mem_cons, List.mem_cons]; grind, List.nodup_cons.mpr ⟨fun hm => h3 n hm List.mem_cons_self, h2⟩, fun x hx hs => ?_⟩
      rcases List.mem_cons.mp hx with rfl | hx
      · exact hn hs
      · exact h3 x hx (List.mem_cons_of_mem _ hs)
    · cases h
theorem chkRows_once (cap : Int) : ∀ (l : List (List Int)) (s t : List Int), chkRows cap l s = some t → (∀ x, x ∈ t ↔ x ∈ s ∨ x ∈ l.flatten) ∧ l.flatten.Nodup ∧ ∀ x, x ∈ l.flatten → ¬ x ∈ s
  | [], s, t, h => by injection h with h; subst h; simp
  | r :: l, s, t, h => by
    unfold chkRows at h
    split at h
    · cases h1 : chkRow r s with
      | none => rw [h1] at h; cases h
      | some u =>
        rw [h1] at h
        obtain ⟨a1, a2, a3⟩ := chkRow_once r s u h1
        obtain ⟨b1, b2, b3⟩ := chkRows_once cap l u t h
        rw [List.flatten_cons]
        refine ⟨fun x => by rw [b1, a1, List.mem_append]; grind, List.nodup_append.mpr ⟨a2, b2, fun x hx y hy e => ?_⟩, fun x hx hs => ?_⟩
        · subst e; exact b3 x hy ((a1 x).mpr (Or.inr hx))
        · rcases List.mem_append.mp hx with hx | hx
          · exact a3 x hx hs
          · exact b3 x hx ((a1 x).mpr (Or.inl hs))
    · cases h
theorem one_ev {c : List Int} (hc : codeOk c) {i s n : Int} (hi : 0 ≤ i ∧ i ≤ 999999990) : ∃ b j s', spec_l1Cur_one.f c i s n = some (b, j, s') ∧ i ≤ j ∧ j ≤ i + 2 := by
  unfold spec_l1Cur_one.f
  obtain ⟨r, j, s1, e, _, _, g⟩ := pick_ev hc (s := s) (n := n) hi
  rw [e]
  exact ⟨_, _, _, rfl, g⟩
theorem vints_l (l : List Int) (hn : l.length ≤ 1048576) : ∀ d i, i + d = l.length → Ev (fun k => laws_vInts.l0 k l l (i : Int)) true := by
  intro d
  induction d with
  | zero => intro i hi; exact Ev.step (fun k => by simp only [laws_vInts.l0]; rfl) (ev_neg (by omega) (ev_const rfl))
  | succ d ih =>
    intro i hi
    have hlt : i < l.length := by omega
    refine Ev.step (fun k => by simp only [laws_vInts.l0]; rfl) (ev_pos (by omega) (ev_pos (by omega) (ev_pos (by omega) ?_)))
    rw [wsucc hlt (by omega)]
    exact ev_pos trivial (ih (i + 1) (by omega))
theorem vints_ev (l : List Int) (hn : l.length ≤ 1048576) : Ev (fun k => laws_vInts.f k l l) true := by
  unfold laws_vInts.f
  exact ev_pos rfl (vints_l l hn l.length 0 (by omega))
/-! The bays that are drawn. -/
def YB (l : List (List Int)) : Prop := (1 ≤ l.length ∧ l.length ≤ 4) ∧ ∀ x, x ∈ l → x.length ≤ 4
theorem YB.set {l : List (List Int)} (h : YB l) (t : Nat) (r : List Int) (hr : r.length ≤ 4) : YB (l.set t r) := by
  refine ⟨by rw [List.length_set]; exact h.1, fun x hx => ?_⟩
  rcases List.mem_or_eq_of_mem_set hx with hx | rfl
  · exact h.2 x hx
  · exact hr
theorem getD_four {l : List (List Int)} (h : ∀ x, x ∈ l → x.length ≤ 4) (t : Nat) : (l.getD t []).length ≤ 4 := by
  by_cases ht : t < l.length
  · rw [getD_at _ _ _ ht]; exact h _ (List.getElem_mem ht)
  · rw [show l.getD t [] = [] by simp [List.getD, List.getElem?_eq_none (by omega : l.length ≤ t)]]; simp
theorem findE {l : List (List Int)} (h : YB l) (H v : Int) : Ev (fun k => spec_l9Find.f k H l v) (find v l 0) :=
  find_spec H v l (by have := h.1; omega) (fun x hx => by have := h.2 x hx; omega) l.length 0 (by omega)
theorem bay_l1 {c : List Int} (hc : codeOk c) {H : Int} (hH : H ≤ 4) : ∀ (m : Nat) (i s : Int) (l : List (List Int)), YB l → 0 ≤ i → i + 4 * m ≤ 900000000 → ∃ (l' : List (List Int)) (j s' : Int), Ev (fun k => spec_l1Cur_bay.l1 k (m : Int) c i s H l) (H, l', j, s') ∧ YB l' ∧ i ≤ j ∧ j ≤ i + 4 * m
  | 0, i, s, l, h, h0, h1 => by
    refine ⟨l, i, s, ?_, h, by omega, by omega⟩
    refine Ev.step (fun k => by simp only [spec_l1Cur_bay.l1]; rfl) ?_
    exact ev_neg (by omega) (ev_const rfl)
  | m + 1, i, s, l, h, h0, h1 => by
    obtain ⟨a, i1, s1, e1, a0, a1, g1⟩ := pick_ev hc (s := s) (n := (l.length : Int)) (i := i) (by omega)
    obtain ⟨b, i2, s2, e2, b0, b1, g2⟩ := pick_ev hc (s := s1) (n := 3) (i := i1) (by omega)
    have hl := h.1
    obtain ⟨a, rfl⟩ := Int.eq_ofNat_of_zero_le a0
    have hw : wrap64 ((((m + 1 : Nat) : Int)) - 1) = (m : Int) := by rw [wr (by omega) (by omega)]; omega
    have ea : rd_L2 l (a : Int) = l.getD a [] := by unfold rd_L2; rw [Int.toNat_natCast]
    obtain ⟨v, hv⟩ : ∃ v : Int, v = wrap64 (1 + (Int.tmod (wrap64 ((wrap64 (7 * ((m + 1 : Nat) : Int))) + (wrap64 (b * 31)))) 99)) := ⟨_, rfl⟩
    have hf := findE h H v
    obtain ⟨lA, jA, sA, gA3, gA4, gA5, gA6⟩ := bay_l1 hc hH m i2 s2 l h (by omega) (by omega)
    by_cases hp : (find v l 0).1 < 0
    · by_cases ha : (((l.getD a []).length : Int) < H)
      · obtain ⟨l', j, s', g3, g4, g5, g6⟩ := bay_l1 hc hH m i2 s2 (l.set a (l.getD a [] ++ [v])) (h.set a _ (by rw [List.length_append, List.length_singleton]; omega)) (by omega) (by omega)
        refine ⟨l', j, s', ?_, g4, by omega, by omega⟩
        refine Ev.step (fun k => by simp only [spec_l1Cur_bay.l1]; rfl) ?_
        refine ev_pos (by omega) (ev_call e1 (ev_call e2 ?_))
        try dsimp only
        rw [← hv]
        refine Ev.bind hf (ev_pos hp (ev_pos (by omega) (ev_pos (by omega) ?_)))
        rw [ea, hw]
        refine ev_pos ha (ev_pos (by omega) ?_)
        rw [Int.toNat_natCast]
        exact g3
      · refine ⟨lA, jA, sA, ?_, gA4, by omega, by omega⟩
        refine Ev.step (fun k => by simp only [spec_l1Cur_bay.l1]; rfl) ?_
        refine ev_pos (by omega) (ev_call e1 (ev_call e2 ?_))
        try dsimp only
        rw [← hv]
        refine Ev.bind hf (ev_pos hp (ev_pos (by omega) (ev_pos (by omega) ?_)))
        rw [ea, hw]
        exact ev_neg ha gA3
    · refine ⟨lA, jA, sA, ?_, gA4, by omega, by omega⟩
      refine Ev.step (fun k => by simp only [spec_l1Cur_bay.l1]; rfl) ?_
      refine ev_pos (by omega) (ev_call e1 (ev_call e2 ?_))
      try dsimp only
      rw [← hv]
      refine Ev.bind hf (ev_neg hp ?_)
      rw [hw]
      exact gA3
theorem bay_l0 {c : List Int} (hc : codeOk c) {H : Int} (hH : H ≤ 4) : ∀ (m : Nat) (i s : Int) (l : List (List Int)), l.length + m ≤ 4 → 1 ≤ l.length + m → (∀ x, x ∈ l → x.length ≤ 4) → 0 ≤ i → i ≤ 700000000 → ∃ (l' : List (List Int)) (j s' : Int), Ev (fun k => spec_l1Cur_bay.l0 k (m : Int) c i s H l) (H, l', j, s') ∧ YB l' ∧ i ≤ j ∧ j ≤ i + 100
  | 0, i, s, l, h1, h2, h3, h4, h5 => by
    obtain ⟨a, i1, s1, e1, a0, a1, g1⟩ := pick_ev hc (s := s) (n := 9) (i := i) (by omega)
    obtain ⟨a, rfl⟩ := Int.eq_ofNat_of_zero_le a0
    obtain ⟨l', j, s', g3, g4, g5, g6⟩ := bay_l1 hc hH a i1 s1 l ⟨by omega, h3⟩ (by omega) (by omega)
    refine ⟨l', j, s', ?_, g4, by omega, by omega⟩
    refine Ev.step (fun k => by simp only [spec_l1Cur_bay.l0]; rfl) ?_
    exact ev_neg (by omega) (ev_call e1 g3)
  | m + 1, i, s, l, h1, h2, h3, h4, h5 => by
    obtain ⟨l', j, s', g3, g4, g5, g6⟩ := bay_l0 hc hH m i s (l ++ [[]]) (by rw [List.length_append, List.length_singleton]; omega) (by rw [List.length_append, List.length_singleton]; omega) (fun x hx => by
      rcases List.mem_append.mp hx with hx | hx
      · exact h3 x hx
      · rw [List.mem_singleton.mp hx]; simp) h4 h5
    refine ⟨l', j, s', ?_, g4, g5, g6⟩
    refine Ev.step (fun k => by simp only [spec_l1Cur_bay.l0]; rfl) ?_
    refine ev_pos (by omega) (ev_pos (by omega) ?_)
    rw [show wrap64 ((((m + 1 : Nat) : Int)) - 1) = (m : Int) by rw [wr (by omega) (by omega)]; omega]
    exact g3
theorem bay_ev {c : List Int} (hc : codeOk c) {i s : Int} (hi : 0 ≤ i ∧ i ≤ 600000000) : ∃ (H : Int) (l : List (List Int)) (j s' : Int), Ev (fun k => spec_l1Cur_bay.f k c i s) (H, l, j, s') ∧ YB l ∧ i ≤ j ∧ j ≤ i + 2000 := by
  unfold spec_l1Cur_bay.f
  obtain ⟨b, i0, s0, e0, b0, b1, g0⟩ := pick_ev hc (s := s) (n := 4) (i := i) (by omega)
  obtain ⟨a, i1, s1, e1, a0, a1, g1⟩ := pick_ev hc (s := s0) (n := 4) (i := i0) (by omega)
  obtain ⟨a, rfl⟩ := Int.eq_ofNat_of_zero_le a0
  have hH : wrap64 (1 + b) ≤ 4 := by rw [wr (by omega) (by omega)]; omega
  obtain ⟨l', j, s', g3, g4, g5, g6⟩ := bay_l0 hc hH (1 + a) i1 s1 [] (by rw [List.length_nil]; omega) (by rw [List.length_nil]; omega) (fun x hx => by cases hx) (by omega) (by omega)
  refine ⟨wrap64 (1 + b), l', j, s', ev_call e0 (ev_call e1 ?_), g4, by omega, by omega⟩
  try dsimp only
  rw [show wrap64 (1 + (a : Int)) = ((1 + a : Nat) : Int) by rw [wr (by omega) (by omega)]; omega]
  exact g3
def AB (l : List (List Int)) : Prop := l.length ≤ 20 ∧ ∀ x, x ∈ l → x.length ≤ 20
theorem any_l0 {c : List Int} (hc : codeOk c) (H : Int) : ∀ (m n : Nat) (i s : Int) (l : List (List Int)), n + m = 7 → l.length ≤ 4 + n → (∀ x, x ∈ l → x.length ≤ 20) → 0 ≤ i → i + 2 * m ≤ 900000000 → ∃ (l' : List (List Int)) (j s' : Int), Ev (fun k => spec_l1Cur_anyBay.l0 k (n : Int) c i s H l) (H, l', j, s') ∧ AB l' ∧ i ≤ j ∧ j ≤ i + 2 * m + 2
  | 0, n, i, s, l, hn, h1, h2, h3, h4 => by
    obtain ⟨a, i1, s1, e1, a0, a1, g1⟩ := pick_ev hc (s := s) (n := 2) (i := i) (by omega)
    by_cases h5 : (l.length : Int) < wrap64 (5 + a)
    · refine ⟨l, i1, s1, ?_, ⟨by omega, h2⟩, by omega, by omega⟩
      refine Ev.step (fun k => by simp only [spec_l1Cur_anyBay.l0]; rfl) ?_
      exact ev_call e1 (ev_pos h5 (ev_neg (by omega) (ev_const rfl)))
    · refine ⟨l, i1, s1, ?_, ⟨by omega, h2⟩, by omega, by omega⟩
      refine Ev.step (fun k => by simp only [spec_l1Cur_anyBay.l0]; rfl) ?_
      exact ev_call e1 (ev_neg h5 (ev_const rfl))
  | m + 1, n, i, s, l, hn, h1, h2, h3, h4 => by
    obtain ⟨a, i1, s1, e1, a0, a1, g1⟩ := pick_ev hc (s := s) (n := 2) (i := i) (by omega)
    by_cases h5 : (l.length : Int) < wrap64 (5 + a)
    · obtain ⟨l', j, s', g3, g4, g5, g6⟩ := any_l0 hc H m (n + 1) i1 s1 (l ++ [[wrap64 (60 + (n : Int))]]) (by omega) (by rw [List.length_append, List.length_singleton]; omega) (fun x hx => by
        rcases List.mem_append.mp hx with hx | hx
        · exact h2 x hx
        · rw [List.mem_singleton.mp hx]; simp) (by omega) (by omega)
      refine ⟨l', j, s', ?_, g4, by omega, by omega⟩
      refine Ev.step (fun k => by simp only [spec_l1Cur_anyBay.l0]; rfl) ?_
      refine ev_call e1 (ev_pos h5 (ev_pos (by omega) (ev_pos (by omega) ?_)))
      rw [wsucc (n := 7) (by omega) (by omega)]
      exact g3
    · refine ⟨l, i1, s1, ?_, ⟨by omega, h2⟩, by omega, by omega⟩
      refine Ev.step (fun k => by simp only [spec_l1Cur_anyBay.l0]; rfl) ?_
      exact ev_call e1 (ev_neg h5 (ev_const rfl))
theorem any_ev {c : List Int} (hc : codeOk c) {i s : Int} (hi : 0 ≤ i ∧ i ≤ 500000000) : ∃ (H : Int) (l : List (List Int)) (j s' : Int), Ev (fun k => spec_l1Cur_anyBay.f k c i s) (H, l, j, s') ∧ AB l ∧ i ≤ j ∧ j ≤ i + 3000 := by
  unfold spec_l1Cur_anyBay.f
  obtain ⟨H, y, i1, s1, e1, hy, g1⟩ := bay_ev hc (i := i) (s := s) (by omega)
  obtain ⟨a, i2, s2, e2, a0, a1, g2⟩ := pick_ev hc (s := s1) (n := (y.length : Int)) (i := i1) (by omega)
  obtain ⟨z, i3, s3, e3, z0, z1, g3⟩ := pick_ev hc (s := s2) (n := 24) (i := i2) (by omega)
  obtain ⟨a, rfl⟩ := Int.eq_ofNat_of_zero_le a0
  have hl := hy.1
  have hAB : AB y := ⟨by omega, fun x hx => by have := hy.2 x hx; omega⟩
  have ea : rd_L2 y (a : Int) = y.getD a [] := by unfold rd_L2; rw [Int.toNat_natCast]
  have h4 := getD_four hy.2 a
  have hset : ∀ r : List Int, r.length ≤ 20 → AB (y.set (a : Int).toNat r) := fun r hr => ⟨by rw [List.length_set]; omega, fun x hx => by
    rcases List.mem_or_eq_of_mem_set hx with hx | rfl
    · exact hAB.2 x hx
    · exact hr⟩
  by_cases c0 : z = 0
  · obtain ⟨b, i4, s4, e4, _, g4⟩ := among_ev hc (s := s3) (i := i3) (by omega) [0, 5, 4, (-1)] (by decide)
    exact ⟨b, y, i4, s4, Ev.bind e1 (ev_call e2 (ev_call e3 (ev_pos c0 (ev_call e4 (ev_const rfl))))), hAB, by omega, by omega⟩
  by_cases c1 : z = 1
  · obtain ⟨b, i4, s4, e4, _, g4⟩ := among_ev hc (s := s3) (i := i3) (by omega) [0, 100, 99, 8] (by decide)
    refine ⟨H, y.set (a : Int).toNat (y.getD a [] ++ [b]), i4, s4, Ev.bind e1 (ev_call e2 (ev_call e3 (ev_neg c0 (ev_pos c1 (ev_pos (by (try dsimp only); omega) (ev_pos (by (try dsimp only); omega) (ev_call e4 ?_))))))), hset (y.getD a [] ++ [b]) (by rw [List.length_append, List.length_singleton]; omega), by omega, by omega⟩
    try dsimp only
    rw [ea]
    exact ev_pos (by omega) (ev_const rfl)
  by_cases c2 : z = 2
  · exact ⟨H, [], i3, s3, Ev.bind e1 (ev_call e2 (ev_call e3 (ev_neg c0 (ev_neg c1 (ev_pos c2 (ev_const rfl)))))), ⟨by simp, fun x hx => by cases hx⟩, by (try dsimp only); omega, by (try dsimp only); omega⟩
  by_cases c3 : z = 3
  · obtain ⟨l', j, s', g5, g6, g7, g8⟩ := any_l0 hc H 7 0 i3 s3 y (by omega) (by omega) hAB.2 (by omega) (by omega)
    exact ⟨H, l', j, s', Ev.bind e1 (ev_call e2 (ev_call e3 (ev_neg c0 (ev_neg c1 (ev_neg c2 (ev_pos c3 g5)))))), g6, by omega, by omega⟩
  · exact ⟨H, y, i3, s3, Ev.bind e1 (ev_call e2 (ev_call e3 (ev_neg c0 (ev_neg c1 (ev_neg c2 (ev_neg c3 (ev_const rfl))))))), hAB, by omega, by omega⟩
theorem oo_row {c : List Int} (hc : codeOk c) (row : List Int) : ∀ (m : Nat) (out : List Int) (i s : Int), out.length + m ≤ 900 → 0 ≤ i → i + 4 * m ≤ 900000000 → ∃ (o : List Int) (j s' : Int), ooRow c row m out i s = some (o, j, s') ∧ o.length ≤ out.length + m ∧ i ≤ j ∧ j ≤ i + 4 * m
  | 0, out, i, s, h1, h2, h3 => ⟨out, i, s, rfl, by omega, by omega, by omega⟩
  | m + 1, out, i, s, h1, h2, h3 => by
    obtain ⟨b, i1, s1, e1, g1⟩ := one_ev hc (s := s) (n := 4) (i := i) (by omega)
    unfold ooRow
    rw [e1, Option.bind_some]
    by_cases hb : b = true
    · rw [if_pos hb]
      obtain ⟨o, j, s', q1, q2, q3, q4⟩ := oo_row hc row m out i1 s1 (by omega) (by omega) (by omega)
      exact ⟨o, j, s', q1, by omega, by omega, by omega⟩
    · rw [if_neg hb]
      dsimp only
      have hw : wrap64 ((out.length : Int) + 1) = (out.length : Int) + 1 := wr (by omega) (by omega)
      rw [hw]
      obtain ⟨a, i2, s2, e2, a0, a1, g2⟩ := pick_ev hc (s := s1) (n := (out.length : Int) + 1) (i := i1) (by omega)
      rw [e2, Option.bind_some]
      dsimp only
      rw [if_pos ⟨a0, by omega, by omega⟩]
      have hlen : (out.take a.toNat ++ [row.getD m 0] ++ out.drop a.toNat).length = out.length + 1 := by
        rw [List.length_append, List.length_append, List.length_take, List.length_drop, List.length_singleton]; omega
      obtain ⟨o, j, s', q1, q2, q3, q4⟩ := oo_row hc row m (out.take a.toNat ++ [row.getD m 0] ++ out.drop a.toNat) i2 s2 (by omega) (by omega) (by omega)
      exact ⟨o, j, s', q1, by omega, by omega, by omega⟩
theorem oo_all {c : List Int} (hc : codeOk c) : ∀ (l : List (List Int)) (out : List Int) (i s : Int), (∀ x, x ∈ l → x.length ≤ 20) → out.length + 20 * l.length ≤ 900 → 0 ≤ i → i + 80 * (l.length : Int) ≤ 900000000 → ∃ (o : List Int) (j s' : Int), ooAll c l out i s = some (o, j, s') ∧ o.length ≤ out.length + 20 * l.length ∧ i ≤ j ∧ j ≤ i + 80 * (l.length : Int)
  | [], out, i, s, h0, h1, h2, h3 => ⟨out, i, s, rfl, by omega, by omega, by simp⟩
  | r :: l, out, i, s, h0, h1, h2, h3 => by
    rw [List.length_cons] at h1 h3
    have hr := h0 r (List.mem_cons_self)
    obtain ⟨o, j, s', q1, q2, q3, q4⟩ := oo_row hc r r.length out i s (by omega) (by omega) (by omega)
    obtain ⟨o2, j2, s2, p1, p2, p3, p4⟩ := oo_all hc l o j s' (fun x hx => h0 x (List.mem_cons_of_mem _ hx)) (by omega) (by omega) (by omega)
    refine ⟨o2, j2, s2, ?_, by rw [List.length_cons]; omega, by omega, by rw [List.length_cons]; omega⟩
    unfold ooAll
    rw [q1, Option.bind_some]
    exact p1
theorem order_ev {c : List Int} (hc : codeOk c) (h : Int) {l : List (List Int)} (hA : AB l) {i s : Int} (hi : 0 ≤ i ∧ i ≤ 600000000) : ∃ (o : List Int) (j s' : Int), spec_l1Cur_orderOf.f c i s h l = some (o, j, s') ∧ o.length ≤ 500 := by
  unfold spec_l1Cur_orderOf.f
  have h1 := hA.1
  obtain ⟨o, i1, s1, e1, q1, q2, q3⟩ := oo_all hc l [] i s hA.2 (by rw [List.length_nil]; omega) (by omega) (by omega)
  rw [List.length_nil] at q1
  obtain ⟨b, i2, s2, e2, g2⟩ := one_ev hc (s := s1) (n := 10) (i := i1) (by omega)
  obtain ⟨a, i3, s3, e3, _, _, g3⟩ := pick_ev hc (s := s2) (n := 9) (i := i2) (by omega)
  rw [e1, Option.bind_some]
  dsimp only
  rw [e2, Option.bind_some]
  dsimp only
  by_cases hb : b = true
  · rw [if_pos hb, e3, Option.bind_some]
    dsimp only
    rw [if_pos (by omega)]
    exact ⟨_, _, _, rfl, by rw [List.length_append, List.length_singleton]; omega⟩
  · rw [if_neg hb]
    exact ⟨_, _, _, rfl, by omega⟩
theorem draw_ev {c : List Int} (hc : codeOk c) : ∃ (h : Int) (l : List (List Int)) (a : List Int), Ev (fun k => spec_DrawOverstowsOf.f k c) (h, l, a) ∧ AB l ∧ a.length ≤ 500 := by
  unfold spec_DrawOverstowsOf.f
  obtain ⟨h, l, j, s, e1, hA, g1⟩ := any_ev hc (i := 0) (s := 0) (by omega)
  obtain ⟨o, j2, s2, e2, ho⟩ := order_ev hc h hA (i := j) (s := s) (by omega)
  exact ⟨h, l, o, Ev.bind e1 (ev_call e2 (ev_const rfl)), hA, ho⟩
/-! A clear order has no overstows. -/
def rst : Nat → List (List Int) → List Int
  | 0, _ => []
  | n + 1, l => if bst l l.length 0 (-1) < 0 then [] else top (rd_L2 l (bst l l.length 0 (-1))) :: rst n (cutR l (bst l l.length 0 (-1)))
theorem co_rst : ∀ (n : Nat) (l : List (List Int)) (out : List Int), co n l out = out ++ rst n l
  | 0, l, out => by simp [co, rst]
  | n + 1, l, out => by
    unfold co rst
    split
    · simp
    · rw [co_rst n, List.append_assoc]; rfl
theorem bst_none {l : List (List Int)} : ∀ d i (b : Int), i + d = l.length → bst l d i b < 0 → b < 0 ∧ ∀ j, i ≤ j → j < i + d → (rd_L2 l (j : Int)).length = 0
  | 0, i, b, hi, h => ⟨h, fun j h1 h2 => absurd h2 (by omega)⟩
  | d + 1, i, b, hi, h => by
    unfold bst at h
    obtain ⟨h1, h2⟩ := bst_none d (i + 1) _ (by omega) h
    unfold upB at h1
    split at h1
    · omega
    · rename_i hc
      refine ⟨h1, fun j h3 h4 => ?_⟩
      by_cases hj : j = i
      · subst hj
        have : ¬ (rd_L2 l (j : Int)).length > 0 := fun h5 => hc ⟨h5, Or.inl h1⟩
        omega
      · exact h2 j (by omega) (by omega)
theorem bst_empty {l : List (List Int)} (h : bst l l.length 0 (-1) < 0) : ∀ x, x ∈ l → x.length ≤ 0 := by
  intro x hx
  obtain ⟨j, hj, e⟩ := List.mem_iff_getElem.mp hx
  have := (bst_none l.length 0 (-1) (by omega) h).2 j (by omega) (by omega)
  rw [rd_l1 l j hj, e] at this
  omega
theorem bst_some {l : List (List Int)} (h : ¬ bst l l.length 0 (-1) < 0) : ∃ (b : Nat) (hb : b < l.length), bst l l.length 0 (-1) = (b : Int) ∧ 0 < l[b].length := by
  rcases bst_roomy (l := l) l.length 0 (-1) (by omega) (Or.inl (by omega)) with h1 | ⟨h1, h2⟩
  · exact absurd h1 h
  · obtain ⟨b, hb⟩ := Int.eq_ofNat_of_zero_le (by omega : 0 ≤ bst l l.length 0 (-1))
    have hlt : b < l.length := by omega
    refine ⟨b, hlt, hb, ?_⟩
    rw [hb, rd_l1 l b hlt] at h2
    exact h2
theorem rst_len : ∀ (n : Nat) (l : List (List Int)), UK.sumL l ≤ n → ((rst n l).length : Int) = UK.sumL l
  | 0, l, h => by
    have := UK.sumL_pos l
    unfold rst
    rw [List.length_nil]; omega
  | n + 1, l, h => by
    unfold rst
    by_cases hb : bst l l.length 0 (-1) < 0
    · rw [if_pos hb]
      have h1 := UK.sumL_le 0 l (bst_empty hb)
      have h2 := UK.sumL_pos l
      rw [List.length_nil]; omega
    · rw [if_neg hb]
      obtain ⟨b, hlt, e, h0⟩ := bst_some hb
      rw [e]
      have hc := cutR_sum (l := l) (a := (b : Int)) (by omega) (by omega) (by rw [rd_l1 l b hlt]; exact h0)
      have := rst_len n (cutR l (b : Int)) (by omega)
      rw [List.length_cons]; omega
theorem bal_in (n : Nat) : ∀ (l : List (List Int)) (i : Nat) (s S : Int), S ≤ 1000 → s + UK.sumL l ≤ S → -S ≤ s - UK.sumL l → bal n l i s ≤ S ∧ -S ≤ bal n l i s
  | [], i, s, S, h0, h1, h2 => by
    have : UK.sumL [] = 0 := rfl
    unfold bal; omega
  | x :: l, i, s, S, h0, h1, h2 => by
    rw [UK.sumL_cons] at h1 h2
    have hp := UK.sumL_pos l
    unfold bal
    refine bal_in n l (i + 1) _ S h0 ?_ ?_
    · split
      · rw [wr (by omega) (by omega)]; omega
      · split
        · rw [wr (by omega) (by omega)]; omega
        · omega
    · split
      · rw [wr (by omega) (by omega)]; omega
      · split
        · rw [wr (by omega) (by omega)]; omega
        · omega
theorem idx_none (v : Int) : ∀ (r : List Int) (i : Nat), ¬ v ∈ r → idx v r i = -1
  | [], _, _ => rfl
  | x :: r, i, h => by
    unfold idx
    rw [if_neg (fun e => h (by rw [e]; exact List.mem_cons_self)), idx_none v r (i + 1) (fun hm => h (List.mem_cons_of_mem _ hm))]
theorem idx_at (v : Int) : ∀ (r z : List Int) (i : Nat), ¬ v ∈ r → idx v (r ++ v :: z) i = ((i + r.length : Nat) : Int)
  | [], z, i, _ => by
    rw [List.nil_append]; unfold idx; rw [if_pos rfl]; rfl
  | x :: r, z, i, h => by
    rw [List.cons_append]
    unfold idx
    rw [if_neg (fun e => h (by rw [e]; exact List.mem_cons_self)), idx_at v r z (i + 1) (fun hm => h (List.mem_cons_of_mem _ hm)), List.length_cons]
    omega
theorem find_at (v : Int) : ∀ (l : List (List Int)) (i j : Nat) (h : j < l.length) (r z : List Int), l[j] = r ++ v :: z → l.flatten.Nodup → find v l i = (((i + j : Nat) : Int), (r.length : Int))
  | r0 :: l, i, 0, h, r, z, e, hd => by
    have e0 : r0 = r ++ v :: z := e
    subst e0
    rw [List.flatten_cons] at hd
    have hd1 := (List.nodup_append.mp hd).1
    have hn : ¬ v ∈ r := fun hm => (List.nodup_append.mp hd1).2.2 v hm v List.mem_cons_self rfl
    unfold find
    rw [idx_at v r z 0 hn, if_pos (by omega), Nat.zero_add]; rfl
  | r0 :: l, i, j + 1, h, r, z, e, hd => by
    have hj : j < l.length := by simpa using h
    have e2 : l[j] = r ++ v :: z := by simpa using e
    rw [List.flatten_cons] at hd
    obtain ⟨_, d2, d3⟩ := List.nodup_append.mp hd
    have hn : ¬ v ∈ r0 := fun hc => d3 v hc v (List.mem_flatten.mpr ⟨_, List.getElem_mem hj, by rw [e2]; simp⟩) rfl
    unfold find
    rw [idx_none v r0 0 hn, if_neg (by omega), find_at v l (i + 1) j hj r z e2 d2]
    congr 2; omega
theorem flat_cut : ∀ (l : List (List Int)) (b : Nat) (hb : b < l.length) (r : List Int) (x : Int), l[b] = r ++ [x] → l.flatten.Perm (x :: (l.set b r).flatten)
  | r0 :: l, 0, hb, r, x, e => by
    have e0 : r0 = r ++ [x] := e
    subst e0
    rw [List.flatten_cons, List.set_cons_zero, List.flatten_cons, List.append_assoc]
    exact List.perm_middle
  | r0 :: l, b + 1, hb, r, x, e => by
    rw [List.flatten_cons, List.set_cons_succ, List.flatten_cons]
    exact ((flat_cut l b (by simpa using hb) r x (by simpa using e)).append_left r0).trans List.perm_middle
theorem top_split (q : List Int) (h : 0 < q.length) : q = q.take (q.length - 1) ++ [top q] := by
  have e : top q = q[q.length - 1] := by
    unfold top
    rw [show ((q.length : Int) - 1) = ((q.length - 1 : Nat) : Int) by omega]
    exact rd_at q (q.length - 1) (by omega)
  rw [e, ← List.take_succ_eq_append_getElem (by omega), show q.length - 1 + 1 = q.length by omega, List.take_length]
theorem cntNot_zero (pre : List Int) : ∀ (z : List Int) (s : Int), (∀ y, y ∈ z → y ∈ pre) → cntNot pre z s = s
  | [], s, _ => rfl
  | y :: z, s, h => by
    unfold cntNot
    rw [if_pos (by simpa using h y List.mem_cons_self)]
    exact cntNot_zero pre z s (fun y hy => h y (List.mem_cons_of_mem _ hy))
def Inv (l0 l : List (List Int)) (out : List Int) : Prop := l.length = l0.length ∧ (out ++ l.flatten).Nodup ∧ ∀ j (h : j < l.length) (h0 : j < l0.length), ∃ z, l0[j] = l[j] ++ z ∧ ∀ y, y ∈ z → y ∈ out
theorem clear_ok (l0 : List (List Int)) (hd : l0.flatten.Nodup) : ∀ (n : Nat) (l : List (List Int)) (out : List Int), Inv l0 l out → okOrd l0 out (rst n l) = true ∧ ∀ acc, ovr l0 out (rst n l) acc = acc ++ List.replicate (rst n l).length 0
  | 0, l, out, _ => ⟨rfl, fun acc => by simp [rst, ovr]⟩
  | n + 1, l, out, hI => by
    unfold rst
    by_cases hb : bst l l.length 0 (-1) < 0
    · rw [if_pos hb]
      exact ⟨rfl, fun acc => by simp [ovr]⟩
    rw [if_neg hb]
    obtain ⟨b, hlt, e, h0⟩ := bst_some hb
    obtain ⟨hL, hN, hz⟩ := hI
    have hlt0 : b < l0.length := by omega
    obtain ⟨z, ez, hzo⟩ := hz b hlt hlt0
    rw [e, rd_l1 l b hlt]
    have es := top_split l[b] h0
    obtain ⟨x, hx⟩ : ∃ x, x = top l[b] := ⟨_, rfl⟩
    obtain ⟨r, hr⟩ : ∃ r, r = l[b].take (l[b].length - 1) := ⟨_, rfl⟩
    rw [← hx, ← hr] at es
    have ec : cutR l (b : Int) = l.set b r := by
      unfold cutR
      rw [rd_l1 l b hlt, Int.toNat_natCast, ← hr]
    rw [ec, ← hx]
    have e0 : l0[b] = r ++ x :: z := by rw [ez, es, List.append_assoc]; rfl
    have hf : find x l0 0 = ((b : Int), (r.length : Int)) := by
      have := find_at x l0 0 b hlt0 r z e0 hd
      rwa [Nat.zero_add] at this
    have hp := flat_cut l b hlt r x es
    have hxl : x ∈ l.flatten := hp.mem_iff.mpr List.mem_cons_self
    have hxo : ¬ x ∈ out := fun hm => (List.nodup_append.mp hN).2.2 x hm x hxl rfl
    have hI2 : Inv l0 (l.set b r) (out ++ [x]) := by
      refine ⟨by rw [List.length_set]; exact hL, ?_, fun j hj hj0 => ?_⟩
      · have hq : (out ++ l.flatten).Perm ((out ++ [x]) ++ (l.set b r).flatten) := by
          rw [List.append_assoc]
          exact hp.append_left out
        exact hq.nodup_iff.mp hN
      · have hj2 : j < l.length := by rw [List.length_set] at hj; exact hj
        by_cases hjb : j = b
        · subst hjb
          refine ⟨x :: z, by rw [List.getElem_set_self]; exact e0, fun y hy => ?_⟩
          rcases List.mem_cons.mp hy with rfl | hy
          · simp
          · exact List.mem_append_left _ (hzo y hy)
        · obtain ⟨z2, a1, a2⟩ := hz j hj2 hj0
          refine ⟨z2, by rw [List.getElem_set_ne (Ne.symm hjb)]; exact a1, fun y hy => List.mem_append_left _ (a2 y hy)⟩
    obtain ⟨k1, k2⟩ := clear_ok l0 hd n (l.set b r) (out ++ [x]) hI2
    refine ⟨?_, fun acc => ?_⟩
    · unfold okOrd
      rw [hf, if_neg (show ¬ ((b : Int) < 0) by omega), if_neg (by simpa using hxo)]
      exact k1
    · unfold ovr
      rw [hf, k2, List.length_cons, List.replicate_succ]
      have ed : (rd_L2 l0 (b : Int)).drop ((r.length : Int) + 1).toNat = z := by
        rw [rd_l1 l0 b hlt0, e0, show ((r.length : Int) + 1).toNat = r.length + 1 by omega, show r ++ x :: z = (r ++ [x]) ++ z by simp]
        exact List.drop_left' (by simp)
      show (acc ++ [cntNot out ((rd_L2 l0 (b : Int)).drop ((r.length : Int) + 1).toNat) 0]) ++ _ = _
      rw [ed, cntNot_zero out z 0 hzo, List.append_assoc]; rfl
theorem okBay_once {h : Int} {l : List (List Int)} (hb : okBay h l = true) : l.flatten.Nodup := by
  unfold okBay at hb
  simp only [Bool.and_eq_true] at hb
  obtain ⟨t, ht⟩ := Option.isSome_iff_exists.mp hb.2.2
  exact (chkRows_once h l [] t ht).2.1
/-! The values of the parts. -/
def ovrV (h : Int) (l : List (List Int)) (a : List Int) : List Int × Bool := if okBay h l = true then (if okOrd l [] a = true then (ovr l [] a [], true) else ([], false)) else ([], false)
theorem over_both (h : Int) (l : List (List Int)) (hn : l.length ≤ 1048576) (hx : ∀ x, x ∈ l → x.length ≤ 1048576) (a : List Int) (ha : a.length ≤ 1048576) :
    Ev (fun k => spec_OverstowsOf.f k h l a) (ovrV h l a) ∧ Ev (fun k => impl_OverstowsOf.f k h l a) (ovrV h l a) ∧ (ovrV h l a).1.length ≤ 1048576 := by
  unfold spec_OverstowsOf.f impl_OverstowsOf.f ovrV
  have hg := good_spec h l hn hx
  cases hb : okBay h l
  · rw [hb] at hg
    exact ⟨Ev.bind hg (ev_neg (by simp) (ev_const rfl)), ev_call (show impl_IsValidBay.f h l = some (okBay h l) from rfl) (by rw [hb]; exact ev_neg (by simp) (ev_const rfl)), by simp⟩
  · rw [hb] at hg
    rw [if_pos rfl]
    have ho : Ev (fun k => spec_l9Order.f k h l a) (okOrd l [] a) := ord_l h l hn hx a ha a.length 0 (by omega)
    have hi := ovi_l h l hn hx a ha a.length 0 [] (by omega) (by simp)
    rw [List.take_zero, List.drop_zero] at hi
    cases hk : okOrd l [] a
    · rw [hk] at ho
      rw [hk, if_neg (by simp)] at hi
      exact ⟨Ev.bind hg (ev_pos rfl (Ev.bind ho (ev_neg (by simp) (ev_const rfl)))), ev_call (show impl_IsValidBay.f h l = some (okBay h l) from rfl) (by rw [hb]; exact ev_pos rfl hi), by simp⟩
    · rw [hk] at ho
      rw [if_pos hk] at hi
      rw [if_pos rfl]
      refine ⟨Ev.bind hg (ev_pos rfl (Ev.bind ho (ev_pos rfl (Ev.bind (show Ev (fun k => spec_l9Overstows.f k h l a) (ovr l [] a []) from ovs_l h l hn hx a ha a.length 0 [] (by omega) (by simp) hk) (ev_const rfl))))), ev_call (show impl_IsValidBay.f h l = some (okBay h l) from rfl) (by rw [hb]; exact ev_pos rfl hi), ?_⟩
      rw [ovr_len]; simpa using ha
def clrV (h : Int) (l : List (List Int)) : List Int × Bool := if okBay h l = true then (rst 20 l, true) else ([], false)
theorem bay_sum {h : Int} {l : List (List Int)} (hb : okBay h l = true) : UK.sumL l ≤ (20 : Nat) := by
  obtain ⟨⟨_, hl5⟩, hm⟩ := okBay_mem hb
  have := UK.sumL_le 4 l (fun x hx => (hm x hx).1)
  omega
theorem clear_both (h : Int) (l : List (List Int)) (hn : l.length ≤ 1048576) (hx : ∀ x, x ∈ l → x.length ≤ 1048576) :
    Ev (fun k => spec_ClearOrder.f k h l) (clrV h l) ∧ Ev (fun k => impl_ClearOrder.f k h l) (clrV h l) ∧ (clrV h l).1.length ≤ 20 := by
  unfold spec_ClearOrder.f impl_ClearOrder.f clrV
  have hg := good_spec h l hn hx
  cases hb : okBay h l
  · rw [hb] at hg
    exact ⟨ev_call rfl (Ev.bind hg (ev_neg (by simp) (ev_const rfl))), ev_call (show impl_IsValidBay.f h l = some (okBay h l) from rfl) (by rw [hb]; exact ev_neg (by simp) (ev_const rfl)), by simp⟩
  · rw [hb] at hg
    rw [if_pos rfl]
    obtain ⟨⟨_, hl5⟩, hm⟩ := okBay_mem hb
    have h4 : ∀ x, x ∈ l → x.length ≤ 4 := fun x hx => (hm x hx).1
    have hs := bay_sum hb
    have ec : co 20 l [] = rst 20 l := co_rst 20 l []
    have e1 := cl_spec h 20 l [] hl5 h4 hs (by simp)
    have e2 := cl_impl h 20 l [] hl5 h4 hs (by simp)
    rw [ec] at e1 e2
    refine ⟨ev_call rfl (Ev.bind hg (ev_pos rfl (Ev.bind (own_spec h l hn hx) e1))), ev_call (show impl_IsValidBay.f h l = some (okBay h l) from rfl) (by rw [hb]; exact ev_pos rfl (Ev.bind (own_impl h l hn hx) e2)), ?_⟩
    have := rst_len 20 l hs
    show (rst 20 l).length ≤ 20
    omega
def balV (h : Int) (l : List (List Int)) : Int × Bool := if okBay h l = true then (bal l.length l 0 0, true) else (0, false)
theorem bal_both (h : Int) (l : List (List Int)) (hn : l.length ≤ 1048576) (hx : ∀ x, x ∈ l → x.length ≤ 1048576) : Ev (fun k => spec_BayBalance.f k h l) (balV h l) ∧ Ev (fun k => impl_BayBalance.f k h l) (balV h l) := by
  unfold spec_BayBalance.f impl_BayBalance.f impl_IsValidBay.f balV
  have hg := good_spec h l hn hx
  generalize okBay h l = ok at hg ⊢
  cases ok
  · exact ⟨Ev.bind hg (ev_neg (by simp) (ev_const rfl)), ev_call rfl (ev_neg (by simp) (ev_const rfl))⟩
  · exact ⟨Ev.bind hg (ev_pos rfl (bal_spec h l hn l.length 0 0 (by omega))), ev_call rfl (ev_pos rfl (bal_impl l hn l.length 0 0 (by omega)))⟩
/-! The law. -/
theorem law_l0 {h : Int} {l : List (List Int)} (hn : l.length ≤ 1048576) (hx : ∀ x, x ∈ l → x.length ≤ 1048576) (hb : okBay h l = true) (c : List Int) (hcl : (c.length : Int) = UK.sumL l) (N : Nat) (hN : N ≤ 1000) : ∀ d i, i + d = N → Ev (fun k => laws_FnUnloading.l0 k c (List.replicate N 0) (i : Int) h l) true := by
  intro d
  induction d with
  | zero =>
    intro i hi
    refine Ev.step (fun k => by simp only [laws_FnUnloading.l0]; rfl) ?_
    refine ev_neg (by rw [List.length_replicate]; omega) ?_
    obtain ⟨b1, b2⟩ := bal_both h l hn hx
    have hs := bay_sum hb
    obtain ⟨p1, p2⟩ := bal_in l.length l 0 0 (UK.sumL l) (by omega) (by omega) (by omega)
    have e1 : balV h l = (bal l.length l 0 0, true) := by unfold balV; rw [if_pos hb]
    rw [e1] at b1 b2
    refine Ev.bind b2 (Ev.bind b1 (ev_pos rfl (ev_pos rfl (ev_pos (by dsimp only; omega) (ev_const ?_)))))
    dsimp only
    rw [wr (by omega) (by omega), decide_eq_true (by omega)]
  | succ d ih =>
    intro i hi
    have hlt : i < (List.replicate N (0 : Int)).length := by rw [List.length_replicate]; omega
    refine Ev.step (fun k => by simp only [laws_FnUnloading.l0]; rfl) (ev_pos (by omega) (ev_pos (by omega) ?_))
    rw [rd_at _ i hlt, List.getElem_replicate, wsucc (n := N) (by omega) (by omega)]
    exact ev_pos rfl (ih (i + 1) (by omega))
theorem law_true {l0 : List Int} (hl : l0.length ≤ 9223372036854775807) (hw : ∀ x, x ∈ l0 → 0 ≤ x ∧ x ≤ 255) : Ev (fun k => laws_FnUnloading.f k l0) true := by
  unfold laws_FnUnloading.f
  have hb : laws_vBig.f l0 = some (decide ((l0.length : Int) > 65536)) := rfl
  refine ev_call hb ?_
  by_cases hbig : (l0.length : Int) > 65536
  · rw [decide_eq_true hbig]; exact ev_pos rfl (ev_const rfl)
  rw [decide_eq_false hbig]
  refine ev_neg (by simp) ?_
  have hc : codeOk l0 := ⟨by omega, hw⟩
  obtain ⟨h, l, a, e, hA, ha⟩ := draw_ev hc
  have hn : l.length ≤ 1048576 := by have := hA.1; omega
  have hx : ∀ x, x ∈ l → x.length ≤ 1048576 := fun x hx => by have := hA.2 x hx; omega
  obtain ⟨o1, o2, o3⟩ := over_both h l hn hx a (by omega)
  obtain ⟨c1, c2, c3⟩ := clear_both h l hn hx
  refine Ev.bind e (Ev.bind o2 (Ev.bind o1 (ev_neg (by simp) (Ev.bind (vints_ev _ o3) (ev_pos rfl (Ev.bind c2 (Ev.bind c1 (ev_neg (by simp) (Ev.bind (vints_ev _ (by omega)) (ev_pos rfl ?_))))))))))
  cases hk : okBay h l
  · have e1 : clrV h l = ([], false) := by unfold clrV; rw [hk, if_neg (by simp)]
    rw [e1]
    exact ev_neg (by simp) (ev_const rfl)
  · have e1 : clrV h l = (rst 20 l, true) := by unfold clrV; rw [hk, if_pos rfl]
    rw [e1] at c3 ⊢
    have c4 : (rst 20 l).length ≤ 20 := c3
    have hd := okBay_once hk
    have hI : Inv l l [] := ⟨rfl, by rw [List.nil_append]; exact hd, fun j h1 h2 => ⟨[], by rw [List.append_nil], fun y hy => by cases hy⟩⟩
    obtain ⟨k1, k2⟩ := clear_ok l hd 20 l [] hI
    obtain ⟨_, q2, _⟩ := over_both h l hn hx (rst 20 l) (by omega)
    have e2 : ovrV h l (rst 20 l) = (List.replicate (rst 20 l).length 0, true) := by
      unfold ovrV
      rw [if_pos hk, if_pos k1, k2 [], List.nil_append]
    rw [e2] at q2
    refine ev_pos rfl (Ev.bind q2 (ev_pos rfl (ev_pos (by rw [List.length_replicate]) ?_)))
    exact law_l0 hn hx hk (rst 20 l) (rst_len 20 l (bay_sum hk)) (rst 20 l).length (by omega) (rst 20 l).length 0 (by omega)
end Go.Proofs.Ytdooakhjaffcdaa.UB
