/- Overstows of an unloading order. -/
import Derived.Test.YtdbolmkpdddbiaaPx0
import Derived.Test.YtdbolmkpdddbiaaPx4
import Derived.Test.YtdbolmkpdddbiaaPx5
import Derived.Test.YtdbolmkpdddbiaaPx6
import Derived.Test.YtdbolmkpdddbiaaPx7
import Derived.Test.YtdbolmkpdddbiaaPx8
import Derived.Test.YtdbolmkpdddbiaaUBayM
import Derived.Test.YtdbolmkpdddbiaaUBayF
namespace Go.Proofs.Ytdbolmkpdddbiaa.UB
open Go.RowKit Go.Proofs.YtdbolmkpdddbiaaW.PrintWords Go.Proofs.YtdbolmkpdddbiaaW.PrintMore Go.Proofs.Ytdbolmkpdddbiaa.P Go.Proofs.Ytdbolmkpdddbiaa.U Go.Proofs.Ytdbolmkpdddbiaa.UT
set_option linter.unusedVariables false

theorem idx_in (v : Int) : ∀ (l : List Int) (i : Nat), idx v l i = -1 ∨ ∃ t : Nat, t < l.length ∧ idx v l i = ((i + t : Nat) : Int)
  | [], _ => .inl rfl
  | x :: l, i => by
    unfold idx
    split
    · exact .inr ⟨0, by simp, rfl⟩
    · rcases idx_in v l (i + 1) with h | ⟨t, h1, h2⟩
      · exact .inl h
      · exact .inr ⟨t + 1, by simp; omega, by rw [h2]; congr 1; omega⟩
theorem find_in (v : Int) : ∀ (l : List (List Int)) (i : Nat), find v l i = (-1, -1) ∨ ∃ (r t : Nat) (hr : r < l.length), t < l[r].length ∧ find v l i = (((i + r : Nat) : Int), (t : Int))
  | [], _ => .inl rfl
  | x :: l, i => by
    unfold find
    rcases idx_in v x 0 with h | ⟨t, h1, h2⟩
    · rw [if_neg (by omega)]
      rcases find_in v l (i + 1) with h3 | ⟨r, t, hr, h4, h5⟩
      · exact .inl h3
      · exact .inr ⟨r + 1, t, by simp; omega, by simpa using h4, by rw [h5]; congr 2; omega⟩
    · rw [if_pos (by omega)]
      exact .inr ⟨0, t, by simp, by simpa using h1, by rw [h2]; simp⟩
def cntNot (pre : List Int) : List Int → Int → Int
  | [], s => s
  | x :: l, s => cntNot pre l (if pre.contains x = true then s else wrap64 (s + 1))
def okOrd (l : List (List Int)) : List Int → List Int → Bool
  | _, [] => true
  | pre, x :: xs => if (find x l 0).1 < 0 then false else (if pre.contains x = true then false else okOrd l (pre ++ [x]) xs)
def ovr (l : List (List Int)) : List Int → List Int → List Int → List Int
  | _, [], acc => acc
  | pre, x :: xs, acc => ovr l (pre ++ [x]) xs (acc ++ [cntNot pre ((rd_L1 l (find x l 0).1).drop ((find x l 0).2 + 1).toNat) 0])
theorem ovr_len (l : List (List Int)) : ∀ (xs pre acc : List Int), (ovr l pre xs acc).length = acc.length + xs.length
  | [], _, acc => by simp [ovr]
  | x :: xs, pre, acc => by rw [ovr, ovr_len l xs, List.length_append, List.length_singleton, List.length_cons]; omega
theorem ord_l (h : Int) (l : List (List Int)) (hn : l.length ≤ 1048576) (hx : ∀ x, x ∈ l → x.length ≤ 1048576) (a : List Int) (ha : a.length ≤ 1048576) : ∀ d i, i + d = a.length →
    Ev (fun k => spec_l9Order.l0 k a (a.take i) (i : Int) h l) (okOrd l (a.take i) (a.drop i)) := by
  intro d
  induction d with
  | zero =>
    intro i hi
    refine Ev.step (fun k => by simp only [spec_l9Order.l0]; rfl) (ev_neg (by omega) (ev_const ?_))
    rw [List.drop_of_length_le (by omega)]; rfl
  | succ d ih =>
    intro i hi
    have hlt : i < a.length := by omega
    refine Ev.step (fun k => by simp only [spec_l9Order.l0]; rfl) (ev_pos (by omega) (ev_pos (by omega) ?_))
    rw [rd_at a i hlt, wsucc hlt (by omega), List.drop_eq_getElem_cons hlt]
    refine Ev.bind (show Ev (fun k => spec_l9Find.f k h l a[i]) (find a[i] l 0) from find_spec h a[i] l hn hx l.length 0 (by omega)) ?_
    unfold okOrd
    by_cases h1 : (find a[i] l 0).1 < 0
    · rw [if_pos h1]; exact ev_pos h1 (ev_const rfl)
    · rw [if_neg h1]
      refine ev_neg h1 (Ev.bind (has_ev (a.take i) a[i] (by rw [List.length_take]; omega)) ?_)
      have hi2 := ih (i + 1) (by omega)
      rw [List.take_succ_eq_append_getElem hlt] at hi2
      cases h3 : (a.take i).contains a[i]
      · rw [if_neg (by simp)]
        exact ev_neg (by simp) (ev_pos (by rw [List.length_take]; omega) hi2)
      · rw [if_pos rfl]
        exact ev_pos rfl (ev_const rfl)
theorem ovs_l (h : Int) (l : List (List Int)) (hn : l.length ≤ 1048576) (hx : ∀ x, x ∈ l → x.length ≤ 1048576) (a : List Int) (ha : a.length ≤ 1048576) : ∀ d i (acc : List Int), i + d = a.length → acc.length ≤ i → okOrd l (a.take i) (a.drop i) = true →
    Ev (fun k => spec_l9Overstows.l0 k a acc (i : Int) h l) (ovr l (a.take i) (a.drop i) acc) := by
  intro d
  induction d with
  | zero =>
    intro i acc hi hc hk
    refine Ev.step (fun k => by simp only [spec_l9Overstows.l0]; rfl) (ev_neg (by omega) (ev_const ?_))
    rw [List.drop_of_length_le (by omega)]; rfl
  | succ d ih =>
    intro i acc hi hc hk
    have hlt : i < a.length := by omega
    refine Ev.step (fun k => by simp only [spec_l9Overstows.l0]; rfl) (ev_pos (by omega) (ev_pos (by omega) ?_))
    rw [List.drop_eq_getElem_cons hlt] at hk ⊢
    unfold okOrd at hk
    unfold ovr
    rw [rd_at a i hlt]
    refine Ev.bind (show Ev (fun k => spec_l9Find.f k h l a[i]) (find a[i] l 0) from find_spec h a[i] l hn hx l.length 0 (by omega)) ?_
    split at hk
    · cases hk
    rename_i h1
    split at hk
    · cases hk
    rename_i h2
    rcases find_in a[i] l 0 with hf | ⟨r, t, hr, ht, hf⟩
    · rw [hf] at h1; exact absurd (show (-1 : Int) < 0 by omega) h1
    rw [hf, Nat.zero_add]
    have hxr := hx _ (List.getElem_mem hr)
    have hi2 := fun acc hc => ih (i + 1) acc (by omega) hc (by rw [List.take_succ_eq_append_getElem hlt]; exact hk)
    rw [List.take_succ_eq_append_getElem hlt] at hi2
    have inner : ∀ e j (s : Int), j + e = l[r].length → Ev (fun k => spec_l9Overstows.l1 k a acc (i : Int) (r : Int) s (j : Int) h l) (ovr l (a.take i ++ [a[i]]) (a.drop (i + 1)) (acc ++ [cntNot (a.take i) (l[r].drop j) s])) := by
      intro e
      induction e with
      | zero =>
        intro j s hj
        refine Ev.step (fun k => by simp only [spec_l9Overstows.l1]; rfl) (ev_pos (by omega) (ev_pos (by omega) ?_))
        rw [rd_l1 l r hr, wsucc hlt (by omega), List.drop_of_length_le (show l[r].length ≤ j by omega)]
        exact ev_neg (by omega) (ev_pos (by omega) (hi2 _ (by rw [List.length_append, List.length_singleton]; omega)))
      | succ e ihe =>
        intro j s hj
        have hjt : j < l[r].length := by omega
        refine Ev.step (fun k => by simp only [spec_l9Overstows.l1]; rfl) (ev_pos (by omega) (ev_pos (by omega) ?_))
        rw [rd_l1 l r hr, rd_at _ j hjt, wsucc hjt (by omega), Int.toNat_natCast, List.drop_eq_getElem_cons hjt]
        refine ev_pos (by omega) (ev_pos (by omega) (ev_pos (by omega) (ev_pos (by omega) (Ev.bind (has_ev (a.take i) l[r][j] (by rw [List.length_take]; omega)) ?_))))
        unfold cntNot
        cases h3 : (a.take i).contains l[r][j]
        · rw [if_neg (by simp)]
          exact ev_neg (by simp) (ihe (j + 1) _ (by omega))
        · rw [if_pos rfl]
          exact ev_pos rfl (ihe (j + 1) _ (by omega))
    have hh := inner (l[r].length - (t + 1)) (t + 1) 0 (by omega)
    show Ev (fun k => spec_l9Overstows.l1 k a acc (i : Int) (r : Int) 0 (wrap64 ((t : Int) + 1)) h l) _
    rw [wsucc ht (by omega), show rd_L1 l ((r : Nat) : Int) = l[r] from rd_l1 l r hr, show ((t : Int) + 1).toNat = t + 1 by omega]
    exact hh
theorem has_impl (l : List Int) (v : Int) (hn : l.length ≤ 1048576) : Ev (fun k => slices_Contains_int_int.f k l v) (l.contains v) := by
  unfold slices_Contains_int_int.f
  refine Ev.bind (index_ev l v hn) (ev_const ?_)
  have key : ∀ (l : List Int) (i : Nat), decide (idx v l i ≥ 0) = l.contains v := by
    intro l
    induction l with
    | nil => intro i; simp [idx]
    | cons x l ih =>
      intro i
      unfold idx
      rw [List.contains_cons]
      by_cases h : x = v
      · rw [if_pos h, show (v == x) = true by simp [h]]; simp
      · rw [if_neg h, ih, show (v == x) = false by simp; omega]; rfl
  rw [key l 0]
theorem ovi_l (h : Int) (l : List (List Int)) (hn : l.length ≤ 1048576) (hx : ∀ x, x ∈ l → x.length ≤ 1048576) (a : List Int) (ha : a.length ≤ 1048576) : ∀ d i (acc : List Int), i + d = a.length → acc.length ≤ i →
    Ev (fun k => impl_OverstowsOf.l0 k a acc a (a.length : Int) (i : Int) h l) (if okOrd l (a.take i) (a.drop i) = true then (ovr l (a.take i) (a.drop i) acc, true) else ([], false)) := by
  intro d
  induction d with
  | zero =>
    intro i acc hi hc
    refine Ev.step (fun k => by simp only [impl_OverstowsOf.l0]; rfl) (ev_neg (by omega) (ev_const ?_))
    rw [List.drop_of_length_le (by omega)]; rfl
  | succ d ih =>
    intro i acc hi hc
    have hlt : i < a.length := by omega
    refine Ev.step (fun k => by simp only [impl_OverstowsOf.l0]; rfl) (ev_pos (by omega) (ev_pos (by omega) (ev_pos (by omega) ?_)))
    rw [List.drop_eq_getElem_cons hlt]
    unfold okOrd ovr
    rw [rd_at a i hlt]
    have hfi : Ev (fun k => impl_slotOf.f k h l a[i]) (find a[i] l 0) := by
      unfold impl_slotOf.f
      exact Ev.bind (show Ev (fun k => impl_placeOf.f k l a[i]) (find a[i] l 0) from find_impl a[i] l hn hx l.length 0 (by omega)) (ev_const rfl)
    refine Ev.bind hfi ?_
    by_cases h1 : (find a[i] l 0).1 < 0
    · rw [if_pos h1, if_neg (by simp)]
      refine ev_pos h1 (Ev.step (fun k => by simp only [impl_OverstowsOf.j1]; rfl) ?_)
      exact ev_pos trivial (ev_const rfl)
    rw [if_neg h1]
    refine ev_neg h1 (ev_pos (by omega) ?_)
    rw [Int.toNat_natCast]
    refine Ev.bind (has_impl (a.take i) a[i] (by rw [List.length_take]; omega)) ?_
    cases h2 : (a.take i).contains a[i]
    · rw [if_neg (show ¬ (false = true) by simp)]
      refine Ev.step (fun k => by simp only [impl_OverstowsOf.j1]; rfl) (ev_neg (by simp) ?_)
      rcases find_in a[i] l 0 with hf | ⟨r, t, hr, ht, hf⟩
      · rw [hf] at h1; exact absurd (show (-1 : Int) < 0 by omega) h1
      rw [hf, Nat.zero_add]
      have hxr := hx _ (List.getElem_mem hr)
      have hi2 := fun acc hc => ih (i + 1) acc (by omega) hc
      rw [List.take_succ_eq_append_getElem hlt] at hi2
      have e1 : rd_L1 l ((r : Nat) : Int) = l[r] := rd_l1 l r hr
      have inner : ∀ (q : List Int) (hq : q.length ≤ 1048576) e j (s : Int), j + e = q.length → Ev (fun k => impl_OverstowsOf.l1 k a acc (i : Int) s a (a.length : Int) (i : Int) q (q.length : Int) (j : Int) h l) (if okOrd l (a.take i ++ [a[i]]) (a.drop (i + 1)) = true then (ovr l (a.take i ++ [a[i]]) (a.drop (i + 1)) (acc ++ [cntNot (a.take i) (q.drop j) s]), true) else ([], false)) := by
        intro q hq e
        induction e with
        | zero =>
          intro j s hj
          refine Ev.step (fun k => by simp only [impl_OverstowsOf.l1]; rfl) (ev_neg (by omega) (ev_pos (by omega) ?_))
          rw [wsucc hlt (by omega), List.drop_of_length_le (show q.length ≤ j by omega)]
          exact hi2 _ (by rw [List.length_append, List.length_singleton]; omega)
        | succ e ihe =>
          intro j s hj
          have hjt : j < q.length := by omega
          refine Ev.step (fun k => by simp only [impl_OverstowsOf.l1]; rfl) (ev_pos (by omega) (ev_pos (by omega) (ev_pos (by omega) (ev_pos (by omega) (ev_pos (by omega) ?_)))))
          rw [rd_at q j hjt, wsucc hjt (by omega), Int.toNat_natCast, List.drop_eq_getElem_cons hjt]
          refine Ev.bind (has_impl (a.take i) q[j] (by rw [List.length_take]; omega)) ?_
          unfold cntNot
          cases h3 : (a.take i).contains q[j]
          · rw [if_neg (show ¬ (false = true) by simp)]
            exact ev_neg (by simp) (ihe (j + 1) _ (by omega))
          · rw [if_pos (show true = true from rfl)]
            exact ev_pos rfl (ihe (j + 1) _ (by omega))
      have hh := inner (l[r].drop (t + 1)) (by rw [List.length_drop]; omega) (l[r].drop (t + 1)).length 0 0 (by omega)
      rw [List.drop_zero] at hh
      show Ev (fun k => if 0 ≤ ((r : Nat) : Int) then (if ((r : Nat) : Int) < (l.length : Int) then (if 0 ≤ wrap64 ((t : Int) + 1) then (if wrap64 ((t : Int) + 1) ≤ ((rd_L1 l ((r : Nat) : Int)).length : Int) then impl_OverstowsOf.l1 k a acc (i : Int) 0 a (a.length : Int) (i : Int) ((rd_L1 l ((r : Nat) : Int)).drop (wrap64 ((t : Int) + 1)).toNat) (((rd_L1 l ((r : Nat) : Int)).drop (wrap64 ((t : Int) + 1)).toNat).length : Int) 0 h l else none) else none) else none) else none) _
      rw [e1, wsucc ht (by omega), Int.toNat_natCast, show ((t : Int) + 1).toNat = t + 1 by omega]
      exact ev_pos (by omega) (ev_pos (by omega) (ev_pos (by omega) (ev_pos (by omega) hh)))
    · rw [if_pos (show true = true from rfl), if_neg (by simp)]
      refine Ev.step (fun k => by simp only [impl_OverstowsOf.j1]; rfl) ?_
      exact ev_pos trivial (ev_const rfl)
theorem over_same (h : Int) (l : List (List Int)) (hn : l.length ≤ 1048576) (hx : ∀ x, x ∈ l → x.length ≤ 1048576) (a : List Int) (ha : a.length ≤ 1048576) :
    ∃ (r : List Int) (b : Bool), Ev (fun k => spec_OverstowsOf.f k h l a) (r, b) ∧ Ev (fun k => impl_OverstowsOf.f k h l a) (r, b) ∧ r.length ≤ 1048576 := by
  unfold spec_OverstowsOf.f impl_OverstowsOf.f
  have hg := good_spec h l hn hx
  cases hb : okBay h l
  · rw [hb] at hg
    exact ⟨[], false, Ev.bind hg (ev_neg (by simp) (ev_const rfl)), ev_call (show impl_IsValidBay.f h l = some (okBay h l) from rfl) (by rw [hb]; exact ev_neg (by simp) (ev_const rfl)), by simp⟩
  · rw [hb] at hg
    have ho : Ev (fun k => spec_l9Order.f k h l a) (okOrd l [] a) := ord_l h l hn hx a ha a.length 0 (by omega)
    have hi := ovi_l h l hn hx a ha a.length 0 [] (by omega) (by simp)
    rw [List.take_zero, List.drop_zero] at hi
    cases hk : okOrd l [] a
    · rw [hk] at ho
      rw [hk, if_neg (by simp)] at hi
      exact ⟨[], false, Ev.bind hg (ev_pos rfl (Ev.bind ho (ev_neg (by simp) (ev_const rfl)))), ev_call (show impl_IsValidBay.f h l = some (okBay h l) from rfl) (by rw [hb]; exact ev_pos rfl hi), by simp⟩
    · rw [hk] at ho
      rw [if_pos hk] at hi
      refine ⟨ovr l [] a [], true, Ev.bind hg (ev_pos rfl (Ev.bind ho (ev_pos rfl (Ev.bind (show Ev (fun k => spec_l9Overstows.f k h l a) (ovr l [] a []) from ovs_l h l hn hx a ha a.length 0 [] (by omega) (by simp) hk) (ev_const rfl))))), ev_call (show impl_IsValidBay.f h l = some (okBay h l) from rfl) (by rw [hb]; exact ev_pos rfl hi), ?_⟩
      rw [ovr_len]; simpa using ha
end Go.Proofs.Ytdbolmkpdddbiaa.UB
