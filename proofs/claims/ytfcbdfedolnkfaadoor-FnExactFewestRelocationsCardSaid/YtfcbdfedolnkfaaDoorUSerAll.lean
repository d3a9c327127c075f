/- UTab, UYard, UYardMem, UArr0, UOwn, UStepY0, UUniq, UOrderA, UStepQ, UStepH, UMark, USerA, USerB, USerC, as one text. -/
import Derived.Test.YtfcbdfedolnkfaaDoorPx0
import Derived.Test.YtfcbdfedolnkfaaDoorPx1
import Derived.Test.YtfcbdfedolnkfaaDoorPx10
import Derived.Test.YtfcbdfedolnkfaaDoorPx11
import Derived.Test.YtfcbdfedolnkfaaDoorPx12
import Derived.Test.YtfcbdfedolnkfaaDoorPx15
import Derived.Test.YtfcbdfedolnkfaaDoorPx16
import Derived.Test.YtfcbdfedolnkfaaDoorPx17
import Derived.Test.YtfcbdfedolnkfaaDoorPx18
import Derived.Test.YtfcbdfedolnkfaaDoorPx19
import Derived.Test.YtfcbdfedolnkfaaDoorPx2
import Derived.Test.YtfcbdfedolnkfaaDoorPx21
import Derived.Test.YtfcbdfedolnkfaaDoorPx3
import Derived.Test.YtfcbdfedolnkfaaDoorPx4
import Derived.Test.YtfcbdfedolnkfaaDoorPx5
import Derived.Test.YtfcbdfedolnkfaaDoorPx6
import Derived.Test.YtfcbdfedolnkfaaDoorPx7
import Derived.Test.YtfcbdfedolnkfaaDoorPx8
import Derived.Test.YtfcbdfedolnkfaaDoorPx9
import Derived.Test.YtfcbdfedolnkfaaDoorU
namespace Go.Proofs.YtfcbdfedolnkfaaDoor.UT
open Go.RowKit Go.Proofs.YtfcbdfedolnkfaaDoorW.PrintWords Go.Proofs.YtfcbdfedolnkfaaDoorW.PrintMore Go.Proofs.YtfcbdfedolnkfaaDoor.P Go.Proofs.YtfcbdfedolnkfaaDoor.U
set_option linter.unusedVariables false

theorem rd_l1 (l : List (List Int)) (i : Nat) (h : i < l.length) : rd_L1 l (i : Int) = l[i] := by
  unfold rd_L1
  rw [Int.toNat_natCast]
  exact getD_at l i _ h

/-- What 'sz' leaves of n; -1 if it is too much. -/
def szT (l : List (List Int)) (n : Int) : Int := l.foldl (fun m x => if m < 0 then m else if m - (x.length : Int) < 0 then -1 else m - (x.length : Int)) n
theorem szT_neg (l : List (List Int)) : szT l (-1) = -1 := by
  unfold szT
  induction l with
  | nil => rfl
  | cons x l ih => rw [List.foldl_cons, if_pos (by omega)]; exact ih
theorem szT_le : ∀ (l : List (List Int)) (n : Int), 0 ≤ szT l n → ∀ x, x ∈ l → (x.length : Int) ≤ n
  | [], _, _, x, hx => by cases hx
  | y :: l, n, h, x, hx => by
    unfold szT at h
    rw [List.foldl_cons] at h
    change 0 ≤ szT l _ at h
    by_cases h0 : n < 0
    · rw [if_pos h0] at h
      exact absurd h (by
        have hk : ∀ (l : List (List Int)) (n : Int), n < 0 → szT l n < 0 := by
          intro l
          induction l with
          | nil => intro n hn; exact hn
          | cons z l ih => intro n hn; unfold szT; rw [List.foldl_cons, if_pos hn]; exact ih n hn
        have := hk l n h0
        omega)
    · rw [if_neg h0] at h
      by_cases h1 : n - (y.length : Int) < 0
      · rw [if_pos h1, szT_neg] at h
        omega
      · rw [if_neg h1] at h
        rcases List.mem_cons.1 hx with rfl | hx
        · omega
        · have := szT_le l _ h x hx
          omega
theorem sz1 (l : List Int) (n : Int) (hn : 0 ≤ n ∧ n ≤ 1048576) (hl : l.length ≤ 9223372036854775807) : laws_szIntS.f l n = some (if n - (l.length : Int) < 0 then -1 else n - (l.length : Int)) := by
  unfold laws_szIntS.f
  rw [wr (by omega) (by omega)]
  split <;> rfl
theorem sz_l (l : List (List Int)) (hl : l.length ≤ 9223372036854775807) (hx : ∀ x, x ∈ l → x.length ≤ 9223372036854775807) : ∀ d i (n : Int), i + d = l.length → 0 ≤ n ∧ n ≤ 1048576 → Ev (fun k => laws_szIntSS.l0 k l n (i : Int)) (szT (l.drop i) n) := by
  intro d
  induction d with
  | zero =>
    intro i n hi hn
    refine Ev.step (fun k => by simp only [laws_szIntSS.l0]; rfl) ?_
    refine ev_neg (by omega) (ev_const ?_)
    rw [List.drop_of_length_le (by omega)]; rfl
  | succ d ih =>
    intro i n hi hn
    have hlt : i < l.length := by omega
    refine Ev.step (fun k => by simp only [laws_szIntSS.l0]; rfl) ?_
    refine ev_pos (by omega) (ev_pos (by omega) ?_)
    rw [rd_l1 l i hlt, wsucc hlt hl, List.drop_eq_getElem_cons hlt]
    refine ev_call (sz1 _ n hn (hx _ (List.getElem_mem hlt))) ?_
    by_cases h1 : n - (l[i].length : Int) < 0
    · refine ev_eq (ev_pos (by rw [if_pos h1]; omega) (ev_const rfl)) ?_
      unfold szT
      rw [List.foldl_cons, if_neg (by omega), if_pos h1]
      exact (szT_neg _).symm
    · have e2 : szT (l[i] :: l.drop (i + 1)) n = szT (l.drop (i + 1)) (n - (l[i].length : Int)) := by
        unfold szT
        rw [List.foldl_cons, if_neg (by omega), if_neg h1]
      rw [e2, if_neg h1]
      exact ev_neg h1 (ih (i + 1) _ (by omega) (by omega))
/-- 'sz' of rows: it is small, or it is told as too much. -/
theorem sz_ev (l : List (List Int)) (hl : l.length ≤ 9223372036854775807) (hx : ∀ x, x ∈ l → x.length ≤ 9223372036854775807) :
    ∃ n, Ev (fun k => laws_szIntSS.f k l 1048576) n ∧ n ≤ 1048576 ∧ (0 ≤ n → l.length ≤ 1048576 ∧ ∀ x, x ∈ l → x.length ≤ 1048576) := by
  unfold laws_szIntSS.f
  have e : wrap64 (1048576 - (l.length : Int)) = 1048576 - (l.length : Int) := wr (by omega) (by omega)
  rw [e]
  by_cases h : 1048576 - (l.length : Int) < 0
  · exact ⟨-1, ev_pos h (ev_const rfl), by omega, fun h => by omega⟩
  · refine ⟨_, ev_neg h (sz_l l hl hx l.length 0 _ (by omega) (by omega)), ?_, fun h0 => ⟨by omega, fun x hx => ?_⟩⟩
    · have hk : ∀ (l : List (List Int)) (n : Int), n ≤ 1048576 → szT l n ≤ 1048576 := by
        intro l
        induction l with
        | nil => intro n hn; exact hn
        | cons z l ih =>
          intro n hn
          unfold szT
          rw [List.foldl_cons]
          refine ih _ ?_
          split
          · exact hn
          · split <;> omega
      exact hk _ _ (by omega)
    · have := szT_le _ _ h0 x hx
      omega

theorem to1_l (l : List Int) (hn : l.length ≤ 1048576) : ∀ d i (acc : List Int), i + d = l.length → acc.length = l.length → acc.take i = l.take i → Ev (fun k => laws_toIntS.l0 k l acc (i : Int)) l := by
  intro d
  induction d with
  | zero =>
    intro i acc hi ha ht
    refine Ev.step (fun k => by simp only [laws_toIntS.l0]; rfl) (ev_neg (by omega) (ev_const ?_))
    rw [List.take_of_length_le (by omega), List.take_of_length_le (by omega)] at ht
    rw [ht]
  | succ d ih =>
    intro i acc hi ha ht
    have hlt : i < l.length := by omega
    refine Ev.step (fun k => by simp only [laws_toIntS.l0]; rfl) ?_
    refine ev_pos (by omega) (ev_pos (by omega) (ev_pos (by omega) ?_))
    rw [wsucc hlt (by omega), Int.toNat_natCast, rd_at l i hlt]
    refine ih (i + 1) _ (by omega) (by rw [List.length_set]; exact ha) ?_
    rw [fill_step ht (by omega), List.take_succ_eq_append_getElem hlt]
theorem to1 (l : List Int) (hn : l.length ≤ 1048576) : Ev (fun k => laws_toIntS.f k l) l := by
  unfold laws_toIntS.f
  refine ev_pos (by omega) (ev_pos (by omega) ?_)
  exact to1_l l hn l.length 0 _ (by omega) (by simp) (by simp)
theorem to_l (l : List (List Int)) (hn : l.length ≤ 1048576) (hx : ∀ x, x ∈ l → x.length ≤ 1048576) : ∀ d i (acc : List (List Int)), i + d = l.length → acc.length = l.length → acc.take i = l.take i → Ev (fun k => laws_toIntSS.l0 k l acc (i : Int)) l := by
  intro d
  induction d with
  | zero =>
    intro i acc hi ha ht
    refine Ev.step (fun k => by simp only [laws_toIntSS.l0]; rfl) (ev_neg (by omega) (ev_const ?_))
    rw [List.take_of_length_le (by omega), List.take_of_length_le (by omega)] at ht
    rw [ht]
  | succ d ih =>
    intro i acc hi ha ht
    have hlt : i < l.length := by omega
    refine Ev.step (fun k => by simp only [laws_toIntSS.l0]; rfl) ?_
    refine ev_pos (by omega) (ev_pos (by omega) ?_)
    rw [wsucc hlt (by omega), Int.toNat_natCast, rd_l1 l i hlt]
    refine Ev.bind (to1 _ (hx _ (List.getElem_mem hlt))) (ev_pos (by omega) ?_)
    refine ih (i + 1) _ (by omega) (by rw [List.length_set]; exact ha) ?_
    rw [fill_step ht (by omega), List.take_succ_eq_append_getElem hlt]
theorem to_ev (l : List (List Int)) (hn : l.length ≤ 1048576) (hx : ∀ x, x ∈ l → x.length ≤ 1048576) : Ev (fun k => laws_toIntSS.f k l) l := by
  unfold laws_toIntSS.f
  refine ev_pos (by omega) (ev_pos (by omega) ?_)
  exact to_l l hn hx l.length 0 _ (by omega) (by simp) (by simp)

theorem eq1_l (l : List Int) (hn : l.length ≤ 9223372036854775807) : ∀ d i, i + d = l.length → Ev (fun k => laws_eqIntS.l0 k l l (i : Int)) true := by
  intro d
  induction d with
  | zero => intro i hi; exact Ev.step (fun k => by simp only [laws_eqIntS.l0]; rfl) (ev_neg (by omega) (ev_const rfl))
  | succ d ih =>
    intro i hi
    refine Ev.step (fun k => by simp only [laws_eqIntS.l0]; rfl) ?_
    refine ev_pos (by omega) (ev_pos (by omega) (ev_pos (by omega) (ev_pos (by simp) ?_)))
    rw [wsucc (show i < l.length by omega) (by omega)]
    exact ih (i + 1) (by omega)
theorem eq1 (l : List Int) (hn : l.length ≤ 9223372036854775807) : Ev (fun k => laws_eqIntS.f k l l) true := by
  unfold laws_eqIntS.f
  exact ev_pos rfl (eq1_l l hn l.length 0 (by omega))
theorem eq_l (l : List (List Int)) (hn : l.length ≤ 9223372036854775807) (hx : ∀ x, x ∈ l → x.length ≤ 9223372036854775807) : ∀ d i, i + d = l.length → Ev (fun k => laws_eqIntSS.l0 k l l (i : Int)) true := by
  intro d
  induction d with
  | zero => intro i hi; exact Ev.step (fun k => by simp only [laws_eqIntSS.l0]; rfl) (ev_neg (by omega) (ev_const rfl))
  | succ d ih =>
    intro i hi
    have hlt : i < l.length := by omega
    refine Ev.step (fun k => by simp only [laws_eqIntSS.l0]; rfl) ?_
    refine ev_pos (by omega) (ev_pos (by omega) (ev_pos (by omega) ?_))
    rw [rd_l1 l i hlt]
    refine Ev.bind (eq1 _ (hx _ (List.getElem_mem hlt))) (ev_pos rfl ?_)
    rw [wsucc hlt hn]
    exact ih (i + 1) (by omega)
theorem eq_ev (l : List (List Int)) (hn : l.length ≤ 9223372036854775807) (hx : ∀ x, x ∈ l → x.length ≤ 9223372036854775807) : Ev (fun k => laws_eqIntSS.f k l l) true := by
  unfold laws_eqIntSS.f
  exact ev_pos rfl (eq_l l hn hx l.length 0 (by omega))

theorem in_spec (a b c : Int) : spec_l1In.f a b c = some (inr a b c) := by
  unfold spec_l1In.f inr
  by_cases h : b ≤ a <;> simp [h]
theorem has_l (l : List Int) (v : Int) (hn : l.length ≤ 9223372036854775807) : ∀ d i, i + d = l.length → Ev (fun k => spec_l1Has.l0 k l v (i : Int)) ((l.drop i).contains v) := by
  intro d
  induction d with
  | zero =>
    intro i hi
    refine Ev.step (fun k => by simp only [spec_l1Has.l0]; rfl) (ev_neg (by omega) (ev_const ?_))
    rw [List.drop_of_length_le (by omega)]; rfl
  | succ d ih =>
    intro i hi
    have hlt : i < l.length := by omega
    refine Ev.step (fun k => by simp only [spec_l1Has.l0]; rfl) ?_
    refine ev_pos (by omega) (ev_pos (by omega) ?_)
    rw [rd_at l i hlt, wsucc hlt hn, List.drop_eq_getElem_cons hlt, List.contains_cons]
    by_cases e : l[i] = v
    · exact ev_eq (ev_pos e (ev_const rfl)) (by simp [e])
    · exact ev_eq (ev_neg e (ih (i + 1) (by omega))) (by simp [Ne.symm e])
theorem has_ev (l : List Int) (v : Int) (hn : l.length ≤ 9223372036854775807) : Ev (fun k => spec_l1Has.f k l v) (l.contains v) := by
  unfold spec_l1Has.f
  exact has_l l v hn l.length 0 (by omega)
end Go.Proofs.YtfcbdfedolnkfaaDoor.UT
namespace Go.Proofs.YtfcbdfedolnkfaaDoor.UY
open Go.RowKit Go.Proofs.YtfcbdfedolnkfaaDoorW.PrintWords Go.Proofs.YtfcbdfedolnkfaaDoorW.PrintMore Go.Proofs.YtfcbdfedolnkfaaDoor.P Go.Proofs.YtfcbdfedolnkfaaDoor.U Go.Proofs.YtfcbdfedolnkfaaDoor.UT
set_option linter.unusedVariables false

theorem good_args {s : S24} (h : G24 s) : s.f0.length ≤ 9223372036854775807 ∧ ∀ x, x ∈ s.f0 → x.length ≤ 9223372036854775807 := ⟨h.1, fun x hx => (h.2 x hx).1⟩
theorem sz_yard (l : List (List Int)) (hl : l.length ≤ 9223372036854775807) (hx : ∀ x, x ∈ l → x.length ≤ 9223372036854775807) :
    ∃ n, Ev (fun k => laws_szYard.f k l 1048576) n ∧ (0 ≤ n → l.length ≤ 1048576 ∧ ∀ x, x ∈ l → x.length ≤ 1048576) := by
  obtain ⟨n, h1, h2, h3⟩ := sz_ev l hl hx
  unfold laws_szYard.f
  by_cases hn : n < 0
  · exact ⟨-1, Ev.bind h1 (ev_pos hn (ev_const rfl)), fun h => by omega⟩
  · exact ⟨n, Ev.bind h1 (ev_neg hn (ev_const rfl)), h3⟩
theorem to_yard (l : List (List Int)) (hn : l.length ≤ 1048576) (hx : ∀ x, x ∈ l → x.length ≤ 1048576) : Ev (fun k => laws_toYard.f k l) l := by
  unfold laws_toYard.f
  exact Ev.bind (to_ev l hn hx) (ev_const rfl)
theorem eq_yard (l : List (List Int)) (hn : l.length ≤ 9223372036854775807) (hx : ∀ x, x ∈ l → x.length ≤ 9223372036854775807) : Ev (fun k => laws_eqYard.f k l l) true := by
  unfold laws_eqYard.f
  exact (Ev.bind (eq_ev l hn hx) (ev_pos rfl (ev_const rfl)))

theorem contains_rev (s : List Int) (n : Int) : s.reverse.contains n = s.contains n := by
  rw [Bool.eq_iff_iff]; simp
/-- The reference's loops: what is left of the check. -/
theorem good_l (l : List (List Int)) (hn : l.length ≤ 9223372036854775807) (hx : ∀ x, x ∈ l → x.length ≤ 1048576) : ∀ d i (s : List Int), i + d = l.length → s.length ≤ i * 1048576 → l.length ≤ 1048576 →
    Ev (fun k => spec_l5Good.l0 k s.reverse (i : Int) l) ((chkRows 4 (l.drop i) s).isSome) := by
  intro d
  induction d with
  | zero =>
    intro i s hi hs _
    refine Ev.step (fun k => by simp only [spec_l5Good.l0]; rfl) ?_
    refine ev_neg (by omega) (ev_const ?_)
    rw [List.drop_of_length_le (by omega)]; rfl
  | succ d ih =>
    intro i s hi hs hll
    have hlt : i < l.length := by omega
    refine Ev.step (fun k => by simp only [spec_l5Good.l0]; rfl) ?_
    refine ev_pos (by omega) (ev_pos (by omega) ?_)
    rw [rd_l1 l i hlt, List.drop_eq_getElem_cons hlt]
    have hxi := hx _ (List.getElem_mem hlt)
    unfold chkRows
    by_cases hc : (l[i].length : Int) ≤ 4
    · rw [if_pos hc]
      refine ev_neg (by omega) ?_
      have inner : ∀ e j (s : List Int), j + e = l[i].length → s.length ≤ i * 1048576 + j → Ev (fun k => spec_l5Good.l1 k s.reverse (i : Int) (j : Int) l) (((chkRow (l[i].drop j) s).bind (chkRows 4 (l.drop (i + 1)))).isSome) := by
        intro e
        induction e with
        | zero =>
          intro j s hj hs
          refine Ev.step (fun k => by simp only [spec_l5Good.l1]; rfl) ?_
          refine ev_pos (by omega) (ev_pos (by omega) ?_)
          rw [rd_l1 l i hlt, wsucc hlt hn]
          refine ev_neg (by omega) ?_
          rw [List.drop_of_length_le (by omega)]
          exact ih (i + 1) s (by omega) (by omega) hll
        | succ e ihe =>
          intro j s hj hs
          have hjt : j < l[i].length := by omega
          refine Ev.step (fun k => by simp only [spec_l5Good.l1]; rfl) ?_
          refine ev_pos (by omega) (ev_pos (by omega) ?_)
          rw [rd_l1 l i hlt, rd_at _ j hjt, wsucc hjt (by omega), List.drop_eq_getElem_cons hjt]
          refine ev_pos (by omega) (ev_pos (by omega) ?_)
          refine ev_call (in_spec _ _ _) ?_
          cases h1 : inr l[i][j] 1 99
          · exact ev_eq (ev_neg (by simp) (ev_const rfl)) (by rw [chkRow_bad (by rw [h1]; rfl)]; rfl)
          refine ev_pos rfl ?_
          have hh := has_ev s.reverse l[i][j] (by rw [List.length_reverse]; omega)
          rw [contains_rev] at hh
          refine Ev.bind hh ?_
          cases h2 : s.contains l[i][j]
          · refine ev_neg (by simp) (ev_pos (by rw [List.length_reverse]; omega) ?_)
            rw [chkRow_ok (by rw [h1, h2]; rfl)]
            have e2 := ihe (j + 1) (l[i][j] :: s) (by omega) (by rw [List.length_cons]; omega)
            rw [List.reverse_cons] at e2
            exact e2
          · exact ev_eq (ev_pos rfl (ev_const rfl)) (by rw [chkRow_bad (by rw [h1, h2]; rfl)]; rfl)
      exact inner l[i].length 0 s (by omega) (Nat.le_trans hs (Nat.le_add_right _ _))
    · rw [if_neg hc]
      exact ev_pos (by omega) (ev_const rfl)
theorem good_spec (l : List (List Int)) (hn : l.length ≤ 1048576) (hx : ∀ x, x ∈ l → x.length ≤ 1048576) : Ev (fun k => spec_l5Good.f k l) (okYard l) := by
  unfold spec_l5Good.f okYard
  refine ev_call (in_spec _ _ _) ?_
  cases h2 : inr (l.length : Int) 1 6
  · exact ev_neg (by simp) (ev_const rfl)
  · exact ev_pos rfl (good_l l (by omega) hx l.length 0 [] (by omega) (by simp) hn)
end Go.Proofs.YtfcbdfedolnkfaaDoor.UY
namespace Go.Proofs.YtfcbdfedolnkfaaDoor.UY
open Go.RowKit Go.Proofs.YtfcbdfedolnkfaaDoorW.PrintWords Go.Proofs.YtfcbdfedolnkfaaDoorW.PrintMore Go.Proofs.YtfcbdfedolnkfaaDoor.P Go.Proofs.YtfcbdfedolnkfaaDoor.U Go.Proofs.YtfcbdfedolnkfaaDoor.UT
set_option linter.unusedVariables false

/-! A valid yard. -/
theorem chkRow_mem : ∀ (l s t : List Int), chkRow l s = some t → ∀ n, n ∈ l → inr n 1 99 = true
  | [], _, _, _, n, hn => by cases hn
  | x :: l, s, t, h, n, hn => by
    unfold chkRow at h
    split at h
    · rename_i hc
      rw [Bool.and_eq_true] at hc
      rcases List.mem_cons.mp hn with rfl | hn
      · exact hc.1
      · exact chkRow_mem l _ _ h n hn
    · cases h
theorem chkRows_mem (cap : Int) : ∀ (l : List (List Int)) (s t : List Int), chkRows cap l s = some t → ∀ x, x ∈ l → (x.length : Int) ≤ cap ∧ ∀ n, n ∈ x → inr n 1 99 = true
  | [], _, _, _, x, hx => by cases hx
  | r :: l, s, t, h, x, hx => by
    unfold chkRows at h
    split at h
    · rename_i hc
      cases h1 : chkRow r s with
      | none => rw [h1] at h; cases h
      | some u =>
        rw [h1] at h
        rcases List.mem_cons.mp hx with rfl | hx
        · exact ⟨hc, chkRow_mem _ _ _ h1⟩
        · exact chkRows_mem cap l _ _ h x hx
    · cases h
theorem okYard_mem {l : List (List Int)} (h : okYard l = true) : (1 ≤ l.length ∧ l.length ≤ 6) ∧ ∀ x, x ∈ l → x.length ≤ 4 ∧ ∀ n, n ∈ x → 1 ≤ n ∧ n ≤ 99 := by
  unfold okYard at h
  rw [Bool.and_eq_true, inr_iff] at h
  obtain ⟨h1, h2⟩ := h
  obtain ⟨t, ht⟩ := Option.isSome_iff_exists.mp h2
  refine ⟨⟨by omega, by omega⟩, fun x hx => ?_⟩
  obtain ⟨h3, h4⟩ := chkRows_mem 4 l _ _ ht x hx
  exact ⟨by omega, fun n hn => inr_iff.mp (h4 n hn)⟩

theorem rdl_mem {l : List (List Int)} {s : Int} (h0 : 0 ≤ s) (h1 : s < (l.length : Int)) : rd_L1 l s ∈ l := by
  obtain ⟨n, rfl⟩ := Int.eq_ofNat_of_zero_le h0
  have h : n < l.length := by omega
  rw [show rd_L1 l (n : Int) = l[n] from rd_l1 l n h]
  exact List.getElem_mem h
end Go.Proofs.YtfcbdfedolnkfaaDoor.UY
namespace Go.Proofs.YtfcbdfedolnkfaaDoor.UY
open Go.RowKit Go.Proofs.YtfcbdfedolnkfaaDoorW.PrintWords Go.Proofs.YtfcbdfedolnkfaaDoorW.PrintMore Go.Proofs.YtfcbdfedolnkfaaDoor.P Go.Proofs.YtfcbdfedolnkfaaDoor.U Go.Proofs.YtfcbdfedolnkfaaDoor.UT
set_option linter.unusedVariables false

/-! Where a number stands. -/
def inYard (l : List (List Int)) (v : Int) : Bool := l.any fun r => r.contains v
def findR (v : Int) : List (List Int) → Nat → Int × Int
  | [], _ => (-1, -1)
  | r :: l, i => if r.contains v = true then ((i : Int), (r.idxOf v : Int)) else findR v l (i + 1)
theorem findR_in (v : Int) : ∀ (l : List (List Int)) (i : Nat), decide ((findR v l i).1 ≥ 0) = inYard l v
  | [], i => by simp [findR, inYard]
  | r :: l, i => by
    unfold findR inYard
    rw [List.any_cons]
    by_cases h : r.contains v = true
    · rw [if_pos h, h]; simp
    · have hf : r.contains v = false := by simpa using h
      rw [if_neg h, findR_in v l (i + 1), hf]; rfl
theorem idx_l (l : List Int) (v : Int) (hn : l.length ≤ 1048576) : ∀ d i, i + d = l.length → Ev (fun k => slices_Index_int_int.l0 k l v (l.length : Int) (i : Int)) (if (l.drop i).contains v = true then ((i + (l.drop i).idxOf v : Nat) : Int) else -1) := by
  intro d
  induction d with
  | zero =>
    intro i hi
    refine Ev.step (fun k => by simp only [slices_Index_int_int.l0]; rfl) ?_
    refine ev_neg (by omega) (ev_const ?_)
    rw [List.drop_of_length_le (by omega)]; rfl
  | succ d ih =>
    intro i hi
    have hlt : i < l.length := by omega
    refine Ev.step (fun k => by simp only [slices_Index_int_int.l0]; rfl) ?_
    refine ev_pos (by omega) (ev_pos (by omega) (ev_pos (by omega) ?_))
    rw [rd_at l i hlt, wsucc hlt (by omega), List.drop_eq_getElem_cons hlt]
    by_cases hc : v = l[i]
    · refine ev_eq (ev_pos hc (ev_const rfl)) ?_
      rw [if_pos (by rw [List.contains_cons, show (v == l[i]) = true by simpa using hc]; rfl), List.idxOf_cons, show (l[i] == v) = true by simpa using hc.symm]; simp
    · have e := ih (i + 1) (by omega)
      refine ev_eq (ev_neg hc e) ?_
      have hb : (l[i] == v) = false := by simp; omega
      rw [List.contains_cons, List.idxOf_cons, hb, show (v == l[i]) = false by simp; omega]
      simp only [Bool.false_or, cond_false]
      by_cases h2 : (l.drop (i + 1)).contains v = true
      · rw [if_pos h2, if_pos h2]; omega
      · rw [if_neg h2, if_neg h2]
theorem idx_ev (l : List Int) (v : Int) (hn : l.length ≤ 1048576) : Ev (fun k => slices_Index_int_int.f k l v) (if l.contains v = true then ((l.idxOf v : Nat) : Int) else -1) := by
  unfold slices_Index_int_int.f
  have h := idx_l l v hn l.length 0 (by omega)
  rw [List.drop_zero, Nat.zero_add] at h
  exact h
theorem place_l (l : List (List Int)) (v : Int) (hn : l.length ≤ 1048576) (hx : ∀ x, x ∈ l → x.length ≤ 1048576) : ∀ d i, i + d = l.length → Ev (fun k => impl_placeOf.l0 k v l (l.length : Int) (i : Int)) (findR v (l.drop i) i) := by
  intro d
  induction d with
  | zero =>
    intro i hi
    refine Ev.step (fun k => by simp only [impl_placeOf.l0]; rfl) ?_
    refine ev_neg (by omega) (ev_const ?_)
    rw [List.drop_of_length_le (by omega)]; rfl
  | succ d ih =>
    intro i hi
    have hlt : i < l.length := by omega
    refine Ev.step (fun k => by simp only [impl_placeOf.l0]; rfl) ?_
    refine ev_pos (by omega) (ev_pos (by omega) (ev_pos (by omega) ?_))
    rw [rd_l1 l i hlt, wsucc hlt (by omega), List.drop_eq_getElem_cons hlt]
    refine Ev.bind (idx_ev _ v (hx _ (List.getElem_mem hlt))) ?_
    unfold findR
    cases h : l[i].contains v
    · rw [if_neg (by simp), if_neg (by simp)]
      exact ev_neg (by omega) (ih (i + 1) (by omega))
    · rw [if_pos rfl, if_pos rfl]
      exact ev_pos (by omega) (ev_const rfl)
theorem place_impl (l : List (List Int)) (v : Int) (hn : l.length ≤ 1048576) (hx : ∀ x, x ∈ l → x.length ≤ 1048576) : Ev (fun k => impl_placeOf.f k l v) (findR v l 0) := by
  unfold impl_placeOf.f
  exact place_l l v hn hx l.length 0 (by omega)
theorem find_l (l : List (List Int)) (v : Int) (hn : l.length ≤ 1048576) (hx : ∀ x, x ∈ l → x.length ≤ 1048576) : ∀ d i, i + d = l.length → Ev (fun k => spec_l5Find.l0 k v (i : Int) l) (findR v (l.drop i) i) := by
  intro d
  induction d with
  | zero =>
    intro i hi
    refine Ev.step (fun k => by simp only [spec_l5Find.l0]; rfl) ?_
    refine ev_neg (by omega) (ev_const ?_)
    rw [List.drop_of_length_le (by omega)]; rfl
  | succ d ih =>
    intro i hi
    have hlt : i < l.length := by omega
    have hxi := hx _ (List.getElem_mem hlt)
    refine Ev.step (fun k => by simp only [spec_l5Find.l0]; rfl) ?_
    refine ev_pos (by omega) ?_
    rw [List.drop_eq_getElem_cons hlt]
    have inner : ∀ e j, j + e = l[i].length → Ev (fun k => spec_l5Find.l1 k v (i : Int) (j : Int) l) (if (l[i].drop j).contains v = true then ((i : Int), ((j + (l[i].drop j).idxOf v : Nat) : Int)) else findR v (l.drop (i + 1)) (i + 1)) := by
      intro e
      induction e with
      | zero =>
        intro j hj
        refine Ev.step (fun k => by simp only [spec_l5Find.l1]; rfl) ?_
        refine ev_pos (by omega) (ev_pos (by omega) ?_)
        rw [rd_l1 l i hlt, wsucc hlt (by omega), List.drop_of_length_le (show l[i].length ≤ j by omega)]
        exact ev_neg (by omega) (ih (i + 1) (by omega))
      | succ e ihe =>
        intro j hj
        have hjt : j < l[i].length := by omega
        refine Ev.step (fun k => by simp only [spec_l5Find.l1]; rfl) ?_
        refine ev_pos (by omega) (ev_pos (by omega) ?_)
        rw [rd_l1 l i hlt, rd_at _ j hjt, wsucc hjt (by omega), List.drop_eq_getElem_cons hjt]
        refine ev_pos (by omega) (ev_pos (by omega) ?_)
        by_cases hc : l[i][j] = v
        · refine ev_eq (ev_pos hc (ev_const rfl)) ?_
          rw [if_pos (by simp [hc]), List.idxOf_cons, hc]; simp
        · refine ev_eq (ev_neg hc (ihe (j + 1) (by omega))) ?_
          have hb : (l[i][j] == v) = false := by simp; omega
          rw [List.contains_cons, List.idxOf_cons, hb, show (v == l[i][j]) = false by simp; omega]
          simp only [Bool.false_or, cond_false]
          by_cases h2 : (l[i].drop (j + 1)).contains v = true
          · rw [if_pos h2, if_pos h2]; simp only [Prod.mk.injEq, true_and]; omega
          · rw [if_neg h2, if_neg h2]
    have h := inner l[i].length 0 (by omega)
    rw [List.drop_zero, Nat.zero_add] at h
    exact h
theorem find_spec (l : List (List Int)) (v : Int) (hn : l.length ≤ 1048576) (hx : ∀ x, x ∈ l → x.length ≤ 1048576) : Ev (fun k => spec_l5Find.f k l v) (findR v l 0) := by
  unfold spec_l5Find.f
  exact find_l l v hn hx l.length 0 (by omega)

/-! Numbers that may come. -/
end Go.Proofs.YtfcbdfedolnkfaaDoor.UY
namespace Go.Proofs.YtfcbdfedolnkfaaDoor.UY
open Go.RowKit Go.Proofs.YtfcbdfedolnkfaaDoorW.PrintWords Go.Proofs.YtfcbdfedolnkfaaDoorW.PrintMore Go.Proofs.YtfcbdfedolnkfaaDoor.P Go.Proofs.YtfcbdfedolnkfaaDoor.U Go.Proofs.YtfcbdfedolnkfaaDoor.UT
set_option linter.unusedVariables false

/-! A copy. -/
theorem own1_spec (l : List Int) (hn : l.length ≤ 1048576) : spec_l1Own.f l = some l := by
  unfold spec_l1Own.f
  show (if ([] : List Int).length + l.length < 17592186044416 then some ([] ++ l) else none) = some l
  rw [if_pos (by simp; omega)]; rfl
theorem own1_impl (l : List Int) (hn : l.length ≤ 1048576) : slices_Clone_int_int.f l = some l := by
  unfold slices_Clone_int_int.f
  rw [if_pos (by omega)]
theorem own_spec_l (l : List (List Int)) (hn : l.length ≤ 1048576) (hx : ∀ x, x ∈ l → x.length ≤ 1048576) : ∀ d i, i + d = l.length → Ev (fun k => spec_l5Own.l0 k (i : Int) l (l.take i)) l := by
  intro d
  induction d with
  | zero =>
    intro i hi
    refine Ev.step (fun k => by simp only [spec_l5Own.l0]; rfl) (ev_neg (by omega) (ev_const ?_))
    rw [List.take_of_length_le (by omega)]
  | succ d ih =>
    intro i hi
    have hlt : i < l.length := by omega
    refine Ev.step (fun k => by simp only [spec_l5Own.l0]; rfl) (ev_pos (by omega) (ev_pos (by omega) ?_))
    rw [rd_l1 l i hlt, wsucc hlt (by omega)]
    refine ev_call (own1_spec _ (hx _ (List.getElem_mem hlt))) (ev_pos (by rw [List.length_take]; omega) ?_)
    have h := ih (i + 1) (by omega)
    rw [List.take_succ_eq_append_getElem hlt] at h
    exact h
theorem own_spec (l : List (List Int)) (hn : l.length ≤ 1048576) (hx : ∀ x, x ∈ l → x.length ≤ 1048576) : Ev (fun k => spec_l5Own.f k l) l := by
  unfold spec_l5Own.f
  exact own_spec_l l hn hx l.length 0 (by omega)
theorem own_impl_l (l : List (List Int)) (hn : l.length ≤ 1048576) (hx : ∀ x, x ∈ l → x.length ≤ 1048576) : ∀ d i, i + d = l.length → Ev (fun k => impl_ownYard.l0 k l (l.length : Int) (i : Int) (l.take i)) l := by
  intro d
  induction d with
  | zero =>
    intro i hi
    refine Ev.step (fun k => by simp only [impl_ownYard.l0]; rfl) (ev_neg (by omega) (ev_const ?_))
    rw [List.take_of_length_le (by omega)]
  | succ d ih =>
    intro i hi
    have hlt : i < l.length := by omega
    refine Ev.step (fun k => by simp only [impl_ownYard.l0]; rfl) (ev_pos (by omega) (ev_pos (by omega) (ev_pos (by omega) ?_)))
    rw [rd_l1 l i hlt, wsucc hlt (by omega)]
    refine ev_call (own1_impl _ (hx _ (List.getElem_mem hlt))) (ev_pos (by rw [List.length_take]; omega) ?_)
    have h := ih (i + 1) (by omega)
    rw [List.take_succ_eq_append_getElem hlt] at h
    exact h
theorem own_impl (l : List (List Int)) (hn : l.length ≤ 1048576) (hx : ∀ x, x ∈ l → x.length ≤ 1048576) : Ev (fun k => impl_ownYard.f k l) l := by
  unfold impl_ownYard.f
  exact own_impl_l l hn hx l.length 0 (by omega)

/-! One number more on a stack. -/
end Go.Proofs.YtfcbdfedolnkfaaDoor.UY
namespace Go.Proofs.YtfcbdfedolnkfaaDoor.UY
open Go.RowKit Go.Proofs.YtfcbdfedolnkfaaDoorW.PrintWords Go.Proofs.YtfcbdfedolnkfaaDoorW.PrintMore Go.Proofs.YtfcbdfedolnkfaaDoor.P Go.Proofs.YtfcbdfedolnkfaaDoor.U Go.Proofs.YtfcbdfedolnkfaaDoor.UT
set_option linter.unusedVariables false

/-- What a step makes of a table; none: it cannot be made. i, j: where the container lies. -/
def stepF (tab : List (List Int)) (i j dd : Int) : Option (List (List Int)) :=
  if i < 0 ∨ ¬ j = ((tab.getD i.toNat []).length : Int) - 1 then none
  else if dd = -1 then some (mvCut tab i.toNat)
  else if ¬ (0 ≤ dd ∧ dd ≤ (tab.length : Int) - 1) ∨ dd = i ∨ ((tab.getD dd.toNat []).length : Int) = 4 then none
  else some (mvTab tab i.toNat dd.toNat)
theorem stepF_len {tab : List (List Int)} {i j dd : Int} {t2 : List (List Int)} (h : stepF tab i j dd = some t2) : t2.length = tab.length := by
  unfold stepF at h
  split at h
  · cases h
  split at h
  · injection h with h; rw [← h]; unfold mvCut; rw [List.length_set]
  split at h
  · cases h
  · injection h with h; rw [← h]; unfold mvTab mvCut; rw [List.length_set, List.length_set]

theorem sz_yardb (l : List (List Int)) (hl : l.length ≤ 9223372036854775807) (hx : ∀ x, x ∈ l → x.length ≤ 9223372036854775807) :
    ∃ n, Ev (fun k => laws_szYard.f k l 1048576) n ∧ (0 ≤ n → n ≤ 1048576 ∧ l.length ≤ 1048576 ∧ ∀ x, x ∈ l → x.length ≤ 1048576) := by
  obtain ⟨n, h1, h2, h3⟩ := sz_ev l hl hx
  unfold laws_szYard.f
  by_cases hn : n < 0
  · exact ⟨-1, Ev.bind h1 (ev_pos hn (ev_const rfl)), fun h => by omega⟩
  · exact ⟨n, Ev.bind h1 (ev_neg hn (ev_const rfl)), fun h => ⟨h2, h3 h⟩⟩
/-- A yard in which steps are made: six stacks at most, four numbers in each. -/
def low (l : List (List Int)) : Prop := 1 ≤ l.length ∧ l.length ≤ 6 ∧ ∀ x, x ∈ l → x.length ≤ 4
theorem low_big {l : List (List Int)} (h : low l) : l.length ≤ 1048576 ∧ ∀ x, x ∈ l → x.length ≤ 1048576 := ⟨by have := h.2.1; omega, fun x hx => by have := h.2.2 x hx; omega⟩
theorem low_ok {l : List (List Int)} (h : okYard l = true) : low l := ⟨(okYard_mem h).1.1, (okYard_mem h).1.2, fun x hx => ((okYard_mem h).2 x hx).1⟩
theorem findR_bound (v : Int) : ∀ (l : List (List Int)) (i : Nat), findR v l i = (-1, -1) ∨ ∃ (f j : Nat) (r : List Int), findR v l i = ((f : Int), (j : Int)) ∧ i ≤ f ∧ l[f - i]? = some r ∧ j < r.length ∧ r[j]? = some v
  | [], i => Or.inl rfl
  | r :: l, i => by
    unfold findR
    by_cases h : r.contains v = true
    · rw [if_pos h]
      have hm : v ∈ r := by simpa using h
      have hj := List.idxOf_lt_length_iff.2 hm
      exact Or.inr ⟨i, r.idxOf v, r, rfl, Nat.le_refl _, by simp, hj, by rw [List.getElem?_eq_getElem hj]; simp⟩
    · rw [if_neg h]
      rcases findR_bound v l (i + 1) with h1 | ⟨f, j, r', h1, h2, h3, h4⟩
      · exact Or.inl h1
      · exact Or.inr ⟨f, j, r', h1, by omega, by rw [show f - i = (f - (i + 1)) + 1 by omega]; exact h3, h4⟩
theorem rd1_getD (l : List (List Int)) (i : Int) : rd_L1 l i = l.getD i.toNat [] := rfl
theorem cut_low {l : List (List Int)} (h : low l) (f : Nat) : low (mvCut l f) := by
  unfold mvCut
  refine ⟨by rw [List.length_set]; exact h.1, by rw [List.length_set]; exact h.2.1, fun x hx => ?_⟩
  rcases List.mem_or_eq_of_mem_set hx with hx | hx
  · exact h.2.2 x hx
  · rw [hx, List.length_take]
    by_cases hf : f < l.length
    · have := h.2.2 _ (List.getElem_mem hf); rw [getD_at _ _ _ hf]; omega
    · rw [show l.getD f [] = [] by simp [List.getD, List.getElem?_eq_none (show l.length ≤ f by omega)]]; simp
theorem mv_low {l : List (List Int)} (h : low l) (f t : Nat) (hft : t ≠ f) (ht : (l.getD t []).length ≤ 3) : low (mvTab l f t) := by
  have hc := cut_low h f
  unfold mvTab
  refine ⟨by rw [List.length_set]; exact hc.1, by rw [List.length_set]; exact hc.2.1, fun x hx => ?_⟩
  rcases List.mem_or_eq_of_mem_set hx with hx | hx
  · exact hc.2.2 x hx
  · have e : (mvCut l f).getD t [] = l.getD t [] := by unfold mvCut; simp [List.getD, Ne.symm hft]
    rw [hx, e, List.length_append, List.length_singleton]; omega
/-- A step. -/
def stepY (l : List (List Int)) (b dd : Int) : Option (List (List Int)) := stepF l (findR b l 0).1 (findR b l 0).2 dd
theorem stepY_low {l : List (List Int)} (h : low l) {b dd : Int} {t : List (List Int)} (ht : stepY l b dd = some t) : low t := by
  unfold stepY stepF at ht
  split at ht
  · cases ht
  split at ht
  · injection ht with ht; rw [← ht]; exact cut_low h _
  split at ht
  · cases ht
  rename_i h1 h2 h3
  injection ht with ht
  rw [← ht]
  have h3a : 0 ≤ dd ∧ dd ≤ (l.length : Int) - 1 := Decidable.byContradiction fun hn => h3 (Or.inl hn)
  have h3b : ¬ dd = (findR b l 0).1 := fun hn => h3 (Or.inr (Or.inl hn))
  have h3c : ¬ ((l.getD dd.toNat []).length : Int) = 4 := fun hn => h3 (Or.inr (Or.inr hn))
  refine mv_low h _ _ (fun e => h3b (by omega)) ?_
  have hl : dd.toNat < l.length := by omega
  have := h.2.2 _ (List.getElem_mem hl)
  rw [getD_at _ _ _ hl] at h3c ⊢
  omega
theorem mv_eq (l : List (List Int)) (f t : Nat) : l5Mv l f t = mvTab l f t := rfl
theorem step_spec {l : List (List Int)} (h : low l) (b dd : Int) : Ev (fun k => spec_l6Step.f k l b dd) ((stepY l b dd).getD l, (stepY l b dd).isSome) := by
  obtain ⟨hn, hx⟩ := low_big h
  unfold spec_l6Step.f
  refine Ev.bind (find_spec l b hn hx) ?_
  unfold stepY stepF
  rcases findR_bound b l 0 with e | ⟨f, j, r, e, _, hr, hj, _⟩
  · rw [e]
    refine ev_pos (by decide) (Ev.step (fun k => by simp only [spec_l6Step.j0]; rfl) (ev_pos (c := true = true) rfl (ev_const ?_)))
    rw [if_pos (Or.inl (by decide))]; rfl
  rw [e]
  rw [Nat.sub_zero] at hr
  obtain ⟨hf, hfr⟩ := List.getElem?_eq_some_iff.1 hr
  have hr4 := h.2.2 r (by rw [← hfr]; exact List.getElem_mem hf)
  have hrd : rd_L1 l (f : Int) = r := by rw [show rd_L1 l (f : Int) = l[f] from rd_l1 l f hf]; exact hfr
  have hgd : l.getD f [] = r := by rw [getD_at _ _ _ hf]; exact hfr
  refine ev_neg (by omega) (ev_pos (by omega) (ev_pos (by omega) ?_))
  dsimp only
  rw [hrd, wr (by omega) (by omega), Int.toNat_natCast, hgd]
  refine Ev.step (fun k => by simp only [spec_l6Step.j0]; rfl) ?_
  by_cases hjl : (j : Int) = (r.length : Int) - 1
  case neg => 
    refine ev_pos (bne_iff_ne.mpr hjl) (ev_const ?_)
    rw [if_pos (Or.inr hjl)]; rfl
  rw [if_neg (by omega)]
  refine ev_neg (by rw [hjl]; simp) ?_
  by_cases hd : dd = -1
  · rw [if_pos hd]
    refine ev_pos hd (Ev.bind (own_spec l hn hx) (ev_pos (by omega) (ev_pos (by omega) (ev_pos (by omega) (ev_pos ?_ (ev_const ?_))))))
    · rw [hrd]; omega
    · rw [hrd, Int.toNat_natCast, Int.toNat_natCast]
      unfold mvCut
      rw [hgd, show r.length - 1 = j by omega]; rfl
  rw [if_neg hd]
  refine ev_neg hd ?_
  rw [wr (x := (l.length : Int) - 1) (by omega) (by omega)]
  refine ev_call (in_spec _ _ _) ?_
  by_cases hin : 0 ≤ dd ∧ dd ≤ (l.length : Int) - 1
  case neg =>
    rw [if_pos (Or.inl hin), inr_not.2 hin]
    exact ev_neg (by simp) (ev_const rfl)
  rw [inr_iff.2 hin]
  refine ev_pos rfl ?_
  by_cases hs : dd = (f : Int)
  · rw [if_pos (Or.inr (Or.inl hs))]
    exact ev_pos hs (ev_const rfl)
  refine ev_neg hs (ev_pos hin.1 (ev_pos (by omega) ?_))
  rw [rd1_getD]
  by_cases h4 : ((l.getD dd.toNat []).length : Int) = 4
  · rw [if_pos (Or.inr (Or.inr h4))]
    exact ev_pos h4 (ev_const rfl)
  rw [if_neg (by rintro (h1 | h1 | h1); exact h1 hin; exact hs h1; exact h4 h1)]
  refine ev_neg h4 (Ev.bind (a := mvTab l f dd.toNat) ?_ (ev_const rfl))
  unfold spec_l5Move.f
  refine Ev.bind (own_spec l hn hx) (ev_const ?_)
  unfold spec_l5Move.g
  rw [if_pos ⟨by omega, by omega, hin.1, by omega, by rw [Int.toNat_natCast, hgd]; omega, fun x hx => by have := h.2.2 x hx; omega⟩, Int.toNat_natCast, mv_eq]
end Go.Proofs.YtfcbdfedolnkfaaDoor.UY
namespace Go.Proofs.YtfcbdfedolnkfaaDoor.UY
open Go.RowKit Go.Proofs.YtfcbdfedolnkfaaDoorW.PrintWords Go.Proofs.YtfcbdfedolnkfaaDoorW.PrintMore Go.Proofs.YtfcbdfedolnkfaaDoor.P Go.Proofs.YtfcbdfedolnkfaaDoor.U Go.Proofs.YtfcbdfedolnkfaaDoor.UT
set_option linter.unusedVariables false

def atY (l : List (List Int)) (v : Int) (f j : Nat) : Prop := (l.getD f [])[j]? = some v
/-- Each number stands at one place at most. -/
def once (l : List (List Int)) : Prop := ∀ v f j f' j', atY l v f j → atY l v f' j' → f = f' ∧ j = j'
theorem getD_out {l : List (List Int)} {f : Nat} (h : l.length ≤ f) : l.getD f [] = [] := by simp [List.getD, List.getElem?_eq_none h]
theorem at_len {l : List (List Int)} {v : Int} {f j : Nat} (h : atY l v f j) : f < l.length ∧ j < (l.getD f []).length := by
  unfold atY at h
  obtain ⟨h1, h2⟩ := List.getElem?_eq_some_iff.1 h
  refine ⟨?_, h1⟩
  by_cases hf : f < l.length
  · exact hf
  · rw [getD_out (by omega)] at h1; simp at h1
theorem at_nil {v : Int} {f j : Nat} (h : atY [] v f j) : False := by have := (at_len h).1; simp at this
theorem at_zero {r : List Int} {l : List (List Int)} {v : Int} {j : Nat} : atY (r :: l) v 0 j ↔ r[j]? = some v := by unfold atY; simp
theorem at_succ {r : List Int} {l : List (List Int)} {v : Int} {f j : Nat} : atY (r :: l) v (f + 1) j ↔ atY l v f j := by unfold atY; simp
theorem find_none : ∀ (l : List (List Int)) (i : Nat) (v : Int), findR v l i = (-1, -1) → ∀ f j, ¬ atY l v f j
  | [], i, v, _, f, j => fun h => at_nil h
  | r :: l, i, v, hf, f, j => by
    unfold findR at hf
    by_cases hc : r.contains v = true
    · rw [if_pos hc] at hf
      have := congrArg Prod.fst hf
      exact absurd this (by show ¬ (i : Int) = -1; omega)
    · rw [if_neg hc] at hf
      intro h
      cases f with
      | zero => exact hc (by have := List.mem_of_getElem? (at_zero.1 h); simpa using this)
      | succ f => exact find_none l (i + 1) v hf f j (at_succ.1 h)
theorem find_in (l : List (List Int)) (v : Int) : findR v l 0 = (-1, -1) ∨ ∃ f j : Nat, findR v l 0 = ((f : Int), (j : Int)) ∧ atY l v f j := by
  rcases findR_bound v l 0 with e | ⟨f, j, r, e, _, hr, hj, hv⟩
  · exact Or.inl e
  · refine Or.inr ⟨f, j, e, ?_⟩
    rw [Nat.sub_zero] at hr
    unfold atY
    rw [show l.getD f [] = r by simp [List.getD, hr]]
    exact hv
theorem find_at {l : List (List Int)} {v : Int} {f j : Nat} (hU : once l) (h : atY l v f j) : findR v l 0 = ((f : Int), (j : Int)) := by
  rcases find_in l v with e | ⟨f', j', e, h'⟩
  · exact absurd h (find_none l 0 v e f j)
  · obtain ⟨rfl, rfl⟩ := hU v f j f' j' h h'
    exact e
theorem inYard_at {l : List (List Int)} {v : Int} (h : ¬ (findR v l 0).1 < 0) : ∃ f j, atY l v f j := by
  rcases find_in l v with e | ⟨f, j, e, h'⟩
  · rw [e] at h; exact absurd (by decide) h
  · exact ⟨f, j, h'⟩
theorem cut_getD (l : List (List Int)) (f g : Nat) : (mvCut l f).getD g [] = if g = f then (l.getD f []).take ((l.getD f []).length - 1) else l.getD g [] := by
  unfold mvCut
  by_cases e : g = f
  · subst e
    rw [if_pos rfl]
    by_cases h : g < l.length
    · rw [set_getD _ _ _ h]
    · rw [List.set_eq_of_length_le (by omega), getD_out (by omega)]; rfl
  · rw [if_neg e]
    simp [List.getD, Ne.symm e]
theorem at_cut {l : List (List Int)} {f : Nat} {v : Int} {g j : Nat} : atY (mvCut l f) v g j ↔ atY l v g j ∧ ¬ (g = f ∧ j = (l.getD f []).length - 1) := by
  unfold atY
  rw [cut_getD]
  by_cases e : g = f
  · subst e
    rw [if_pos rfl, List.getElem?_take]
    constructor
    · intro h
      split at h
      · exact ⟨h, by omega⟩
      · cases h
    · intro ⟨h, h2⟩
      have := (List.getElem?_eq_some_iff.1 h).1
      rw [if_pos (by omega)]; exact h
  · rw [if_neg e]
    exact ⟨fun h => ⟨h, fun h2 => e h2.1⟩, fun h => h.1⟩
theorem mv_getD (l : List (List Int)) (f t g : Nat) (ht : t < l.length) : (mvTab l f t).getD g [] = if g = t then (mvCut l f).getD t [] ++ [mvTop l f] else (mvCut l f).getD g [] := by
  unfold mvTab
  have hl : t < (mvCut l f).length := by unfold mvCut; rw [List.length_set]; exact ht
  by_cases e : g = t
  · subst e
    rw [if_pos rfl, set_getD _ _ _ hl]
  · rw [if_neg e]
    simp [List.getD, Ne.symm e]
theorem at_mv {l : List (List Int)} {f t : Nat} (htf : t ≠ f) (ht : t < l.length) {v : Int} {g j : Nat} : atY (mvTab l f t) v g j ↔ (atY l v g j ∧ ¬ (g = f ∧ j = (l.getD f []).length - 1)) ∨ (g = t ∧ j = (l.getD t []).length ∧ v = mvTop l f) := by
  rw [← at_cut]
  unfold atY
  rw [mv_getD _ _ _ _ ht]
  have ec : (mvCut l f).getD t [] = l.getD t [] := by rw [cut_getD, if_neg htf]
  by_cases e : g = t
  · subst e
    rw [if_pos rfl, ec]
    by_cases hj : j < (l.getD g []).length
    · rw [List.getElem?_append_left hj]
      exact ⟨fun h => Or.inl h, fun h => h.elim id (fun h2 => absurd h2.2.1 (by omega))⟩
    · rw [List.getElem?_append_right (by omega)]
      constructor
      · intro h
        obtain ⟨h1, h2⟩ := List.getElem?_eq_some_iff.1 h
        simp only [List.length_singleton] at h1
        refine Or.inr ⟨rfl, by omega, ?_⟩
        rw [← h2]; simp
      · rintro (h | ⟨_, h, rfl⟩)
        · exact absurd (List.getElem?_eq_some_iff.1 h).1 hj
        · rw [h]; simp
  · rw [if_neg e]
    exact ⟨fun h => Or.inl h, fun h => h.elim id (fun h2 => absurd h2.1 e)⟩
theorem at_top {l : List (List Int)} {f : Nat} (h : 0 < (l.getD f []).length) : atY l (mvTop l f) f ((l.getD f []).length - 1) := by
  unfold atY mvTop
  generalize l.getD f [] = r at *
  rw [List.getElem?_eq_getElem (show r.length - 1 < r.length by omega), getD_at r _ _ (show r.length - 1 < r.length by omega)]
theorem once_cut {l : List (List Int)} (h : once l) (f : Nat) : once (mvCut l f) := fun v g j g' j' h1 h2 => h v g j g' j' (at_cut.1 h1).1 (at_cut.1 h2).1
theorem once_mv {l : List (List Int)} (h : once l) {f t : Nat} (htf : t ≠ f) (ht : t < l.length) (h0 : 0 < (l.getD f []).length) : once (mvTab l f t) := by
  intro v g j g' j' h1 h2
  rcases (at_mv htf ht).1 h1 with ⟨a1, a2⟩ | ⟨a1, a2, a3⟩ <;> rcases (at_mv htf ht).1 h2 with ⟨b1, b2⟩ | ⟨b1, b2, b3⟩
  · exact h v g j g' j' a1 b1
  · exact absurd (h v g j f _ a1 (b3 ▸ at_top h0)) a2
  · exact absurd (h v g' j' f _ b1 (a3 ▸ at_top h0)) b2
  · exact ⟨a1.trans b1.symm, a2.trans b2.symm⟩

/-! A valid yard. -/
theorem chkRow_nodup : ∀ (l s t : List Int), chkRow l s = some t → (∀ x, x ∈ t ↔ x ∈ l ∨ x ∈ s) ∧ l.Nodup ∧ ∀ x, x ∈ l → ¬ x ∈ s
  | [], s, t, h => by
    injection h with h; subst h
    exact ⟨by simp, List.nodup_nil, fun x hx => by cases hx⟩
  | y :: l, s, t, h => by
    unfold chkRow at h
    split at h
    · rename_i hc
      rw [Bool.and_eq_true] at hc
      have hy : ¬ y ∈ s := by have := hc.2; simpa using this
      obtain ⟨h1, h2, h3⟩ := chkRow_nodup l _ _ h
      refine ⟨fun x => ?_, List.nodup_cons.2 ⟨fun hm => h3 y hm List.mem_cons_self, h2⟩, fun x hx => ?_⟩
      · rw [h1]; simp only [List.mem_cons]; grind
      · rcases List.mem_cons.1 hx with rfl | hx
        · exact hy
        · exact fun hs => h3 x hx (List.mem_cons_of_mem _ hs)
    · cases h
theorem chkRows_once (cap : Int) : ∀ (l : List (List Int)) (s t : List Int), chkRows cap l s = some t → once l ∧ ∀ v f j, atY l v f j → ¬ v ∈ s
  | [], s, t, h => ⟨fun v f j _ _ h => (at_nil h).elim, fun v f j h => (at_nil h).elim⟩
  | r :: l, s, t, h => by
    unfold chkRows at h
    split at h
    · cases hr : chkRow r s with
      | none => rw [hr] at h; cases h
      | some u =>
        rw [hr] at h
        obtain ⟨h1, h2, h3⟩ := chkRow_nodup _ _ _ hr
        obtain ⟨h4, h5⟩ := chkRows_once cap l u t h
        refine ⟨fun v f j f' j' a b => ?_, fun v f j a => ?_⟩
        · cases f with
          | zero =>
            have ha := at_zero.1 a
            have hv := List.mem_of_getElem? ha
            cases f' with
            | zero =>
              have hb := at_zero.1 b
              obtain ⟨i1, e1⟩ := List.getElem?_eq_some_iff.1 ha
              obtain ⟨i2, e2⟩ := List.getElem?_eq_some_iff.1 hb
              exact ⟨rfl, (List.getElem_inj h2).1 (e1.trans e2.symm)⟩
            | succ f' => exact absurd ((h1 v).2 (Or.inl hv)) (h5 v f' j' (at_succ.1 b))
          | succ f =>
            cases f' with
            | zero => exact absurd ((h1 v).2 (Or.inl (List.mem_of_getElem? (at_zero.1 b)))) (h5 v f j (at_succ.1 a))
            | succ f' =>
              obtain ⟨e1, e2⟩ := h4 v f j f' j' (at_succ.1 a) (at_succ.1 b)
              exact ⟨by rw [e1], e2⟩
        · cases f with
          | zero => exact h3 v (List.mem_of_getElem? (at_zero.1 a))
          | succ f => exact fun hs => h5 v f j (at_succ.1 a) ((h1 v).2 (Or.inr hs))
    · cases h
theorem once_ok {l : List (List Int)} (h : okYard l = true) : once l := by
  unfold okYard at h
  rw [Bool.and_eq_true] at h
  obtain ⟨t, ht⟩ := Option.isSome_iff_exists.mp h.2
  exact (chkRows_once 4 l [] t ht).1
end Go.Proofs.YtfcbdfedolnkfaaDoor.UY
namespace Go.Proofs.YtfcbdfedolnkfaaDoor.UY
open Go.RowKit Go.Proofs.YtfcbdfedolnkfaaDoorW.PrintWords Go.Proofs.YtfcbdfedolnkfaaDoorW.PrintMore Go.Proofs.YtfcbdfedolnkfaaDoor.P Go.Proofs.YtfcbdfedolnkfaaDoor.U Go.Proofs.YtfcbdfedolnkfaaDoor.UT
set_option linter.unusedVariables false

theorem contains_impl (l : List Int) (v : Int) (hn : l.length ≤ 1048576) : Ev (fun k => slices_Contains_int_int.f k l v) (l.contains v) := by
  unfold slices_Contains_int_int.f
  refine Ev.bind (idx_ev l v hn) (ev_const ?_)
  cases h : l.contains v
  · rfl
  · rw [if_pos rfl]; simp
def ords (l : List (List Int)) : List Int → List Int → Bool
  | _, [] => true
  | pre, x :: xs => inYard l x && (!(pre.contains x) && ords l (pre ++ [x]) xs)
def okOrd (l : List (List Int)) (a : List Int) : Bool := okYard l && (ords l [] a && decide ((a.length : Int) ≤ 8))
theorem ord_spec (l : List (List Int)) (hn : l.length ≤ 1048576) (hx : ∀ x, x ∈ l → x.length ≤ 1048576) (a : List Int) (ha : a.length ≤ 1048576) : ∀ d i, i + d = a.length →
    Ev (fun k => spec_l6Order.l0 k a (i : Int) l) (ords l (a.take i) (a.drop i) && decide ((a.length : Int) ≤ 8)) := by
  intro d
  induction d with
  | zero =>
    intro i hi
    refine Ev.step (fun k => by simp only [spec_l6Order.l0]; rfl) ?_
    refine ev_neg (by omega) (ev_const ?_)
    rw [List.drop_of_length_le (by omega)]; rfl
  | succ d ih =>
    intro i hi
    have hlt : i < a.length := by omega
    refine Ev.step (fun k => by simp only [spec_l6Order.l0]; rfl) ?_
    refine ev_pos (by omega) (ev_pos (by omega) ?_)
    rw [rd_at a i hlt, wsucc hlt (by omega), List.drop_eq_getElem_cons hlt]
    unfold ords
    refine Ev.bind (find_spec l _ hn hx) ?_
    have hf := findR_in a[i] l 0
    cases h1 : inYard l a[i]
    · rw [h1] at hf
      exact ev_pos (by have := of_decide_eq_false hf; omega) (ev_const rfl)
    · rw [h1] at hf
      refine ev_neg (by have := of_decide_eq_true hf; omega) (ev_pos (by omega) ?_)
      have hh := has_ev (a.take i) a[i] (by rw [List.length_take]; omega)
      rw [Int.toNat_natCast]
      refine Ev.bind hh ?_
      have hi2 := ih (i + 1) (by omega)
      rw [List.take_succ_eq_append_getElem hlt] at hi2
      cases h3 : (a.take i).contains a[i]
      · exact ev_neg (by simp) hi2
      · exact ev_pos rfl (ev_const rfl)
theorem ordA_spec (l : List (List Int)) (hn : l.length ≤ 1048576) (hx : ∀ x, x ∈ l → x.length ≤ 1048576) (a : List Int) (ha : a.length ≤ 1048576) :
    Ev (fun k => spec_l6Asked.f k l a) (okOrd l a) := by
  unfold spec_l6Asked.f okOrd
  refine Ev.bind (good_spec l hn hx) ?_
  cases okYard l
  · exact ev_neg (by simp) (ev_const rfl)
  · refine ev_pos rfl (Ev.bind (a := ords l [] a && decide ((a.length : Int) ≤ 8)) ?_ (ev_const rfl))
    unfold spec_l6Order.f
    exact ord_spec l hn hx a ha a.length 0 (by omega)
theorem ord_impl (l : List (List Int)) (hn : l.length ≤ 1048576) (hx : ∀ x, x ∈ l → x.length ≤ 1048576) (a : List Int) (ha : a.length ≤ 1048576) : ∀ d i, i + d = a.length →
    Ev (fun k => impl_isOrder.l0 k a a (a.length : Int) (i : Int) l) (ords l (a.take i) (a.drop i)) := by
  intro d
  induction d with
  | zero =>
    intro i hi
    refine Ev.step (fun k => by simp only [impl_isOrder.l0]; rfl) ?_
    refine ev_neg (by omega) (ev_const ?_)
    rw [List.drop_of_length_le (by omega)]; rfl
  | succ d ih =>
    intro i hi
    have hlt : i < a.length := by omega
    refine Ev.step (fun k => by simp only [impl_isOrder.l0]; rfl) ?_
    refine ev_pos (by omega) (ev_pos (by omega) (ev_pos (by omega) ?_))
    rw [rd_at a i hlt, wsucc hlt (by omega), List.drop_eq_getElem_cons hlt]
    unfold ords
    refine Ev.bind (place_impl l _ hn hx) ?_
    have hf := findR_in a[i] l 0
    cases h1 : inYard l a[i]
    · rw [h1] at hf
      exact ev_pos (by have := of_decide_eq_false hf; omega) (ev_const rfl)
    · rw [h1] at hf
      refine ev_neg (by have := of_decide_eq_true hf; omega) (ev_pos (by omega) ?_)
      have hh := contains_impl (a.take i) a[i] (by rw [List.length_take]; omega)
      rw [Int.toNat_natCast]
      refine Ev.bind hh ?_
      have hi2 := ih (i + 1) (by omega)
      rw [List.take_succ_eq_append_getElem hlt] at hi2
      cases h3 : (a.take i).contains a[i]
      · exact ev_neg (by simp) hi2
      · exact ev_pos rfl (ev_const rfl)
theorem ordA_impl (l : List (List Int)) (hn : l.length ≤ 1048576) (hx : ∀ x, x ∈ l → x.length ≤ 1048576) (a : List Int) (ha : a.length ≤ 1048576) :
    Ev (fun k => impl_isOrder.f k l a) (okOrd l a) := by
  unfold impl_isOrder.f okOrd
  refine ev_call (show impl_IsValidYard.f l = some (okYard l) from rfl) ?_
  cases okYard l
  · refine ev_neg (by simp) (Ev.step (fun k => by simp only [impl_isOrder.j0]; rfl) ?_)
    exact ev_pos (by simp) (ev_const rfl)
  · refine ev_pos rfl (Ev.step (fun k => by simp only [impl_isOrder.j0]; rfl) ?_)
    by_cases h : (a.length : Int) > 8
    · refine ev_eq (ev_pos (by simpa using h) (ev_const rfl)) ?_
      rw [decide_eq_false (by omega)]; simp
    · refine ev_eq (ev_neg (by simpa using h) (ord_impl l hn hx a ha a.length 0 (by omega))) ?_
      rw [decide_eq_true (by omega)]; simp
theorem ords_in (l : List (List Int)) : ∀ (a pre : List Int), ords l pre a = true → (∀ x, x ∈ a → inYard l x = true ∧ ¬ x ∈ pre) ∧ a.Nodup
  | [], _, _ => ⟨fun x hx => by (cases hx), List.nodup_nil⟩
  | x :: xs, pre, h => by
    unfold ords at h
    simp only [Bool.and_eq_true] at h
    obtain ⟨h1, h2⟩ := ords_in l xs _ h.2.2
    have hp : ¬ x ∈ pre := by have := h.2.1; simpa using this
    refine ⟨fun y hy => ?_, List.nodup_cons.2 ⟨fun hm => (h1 x hm).2 (by simp), h2⟩⟩
    rcases List.mem_cons.1 hy with rfl | hy
    · exact ⟨h.1, hp⟩
    · exact ⟨(h1 y hy).1, fun hm => (h1 y hy).2 (List.mem_append_left _ hm)⟩
end Go.Proofs.YtfcbdfedolnkfaaDoor.UY
namespace Go.Proofs.YtfcbdfedolnkfaaDoor.UQ
open Go.RowKit Go.Proofs.YtfcbdfedolnkfaaDoorW.PrintWords Go.Proofs.YtfcbdfedolnkfaaDoorW.PrintMore Go.Proofs.YtfcbdfedolnkfaaDoor.P Go.Proofs.YtfcbdfedolnkfaaDoor.U Go.Proofs.YtfcbdfedolnkfaaDoor.UT
set_option linter.unusedVariables false

abbrev Q := S47
theorem rd_q (l : List Q) (i : Nat) (h : i < l.length) : rd_T47 l (i : Int) = l[i] := by
  unfold rd_T47
  rw [Int.toNat_natCast]
  exact getD_at l i _ h
theorem eqq_l (l : List Q) (hn : l.length ≤ 9223372036854775807) : ∀ d i, i + d = l.length → Ev (fun k => laws_eqStepS.l0 k l l (i : Int)) true := by
  intro d
  induction d with
  | zero => intro i hi; exact Ev.step (fun k => by simp only [laws_eqStepS.l0]; rfl) (ev_neg (by omega) (ev_const rfl))
  | succ d ih =>
    intro i hi
    refine Ev.step (fun k => by simp only [laws_eqStepS.l0]; rfl) (ev_pos (by omega) (ev_pos (by omega) (ev_pos (by omega) (ev_call (a := true) (by simp [laws_eqStep.f]) (ev_pos rfl ?_)))))
    rw [wsucc (show i < l.length by omega) (by omega)]
    exact ih (i + 1) (by omega)
theorem eqq_ev (l : List Q) (hn : l.length ≤ 9223372036854775807) : Ev (fun k => laws_eqStepS.f k l l) true := by
  unfold laws_eqStepS.f
  exact ev_pos rfl (eqq_l l hn l.length 0 (by omega))
def mkQ (m : Nat) (n : Int) : List Q := (List.range m).map fun j : Nat => ⟨n + 2 * (j : Int), n + 2 * (j : Int) + 1⟩
theorem mkQ_length (m : Nat) (n : Int) : (mkQ m n).length = m := by simp [mkQ]
theorem mkQ_get (m : Nat) (n : Int) (i : Nat) (h : i < (mkQ m n).length) : (mkQ m n)[i] = ⟨n + 2 * i, n + 2 * i + 1⟩ := by simp [mkQ]
theorem rdq_set (l : List Q) (i : Nat) (h : i < l.length) (v : Q) : rd_T47 (l.set i v) (i : Int) = v := by
  rw [rd_q _ i (by simpa using h)]
  simp
theorem markQ_l (n : Int) (hn : 0 ≤ n ∧ n ≤ 4398046511104) (m : Nat) (hm : m ≤ 1048576) : ∀ d i (acc : List Q), i + d = m → acc.length = m → acc.take i = (mkQ m n).take i → Ev (fun k => laws_markStepS.l0 k acc (n + 2 * i) (i : Int)) (n + 2 * m, mkQ m n) := by
  intro d
  induction d with
  | zero =>
    intro i acc hi ha ht
    refine Ev.step (fun k => by simp only [laws_markStepS.l0]; rfl) (ev_neg (by omega) (ev_const ?_))
    rw [List.take_of_length_le (by omega), List.take_of_length_le (by rw [mkQ_length]; omega)] at ht
    rw [ht, show i = m by omega]
  | succ d ih =>
    intro i acc hi ha ht
    have hlt : i < acc.length := by omega
    refine Ev.step (fun k => by simp only [laws_markStepS.l0]; rfl) ?_
    refine ev_pos (by omega) (ev_pos (by omega) ?_)
    refine ev_call rfl ?_
    rw [wsucc (n := m) (by omega) (by omega), Int.toNat_natCast, wr (x := n + 2 * (i : Int) + 1) (by omega) (by omega), wr (x := n + 2 * (i : Int) + 1 + 1) (by omega) (by omega)]
    rw [rdq_set _ i hlt, List.set_set]
    rw [show n + 2 * (i : Int) + 1 + 1 = n + 2 * ((i + 1 : Nat) : Int) by omega]
    refine ih (i + 1) _ (by omega) (by rw [List.length_set]; exact ha) ?_
    rw [fill_step ht hlt, List.take_succ_eq_append_getElem (show i < (mkQ m n).length by rw [mkQ_length]; omega), mkQ_get]
theorem markQ (l : List Q) (n : Int) (hn : 0 ≤ n ∧ n ≤ 4398046511104) (hm : l.length ≤ 1048576) : Ev (fun k => laws_markStepS.f k l n) (n + 2 * (l.length : Int), mkQ l.length n) := by
  unfold laws_markStepS.f
  have h := markQ_l n hn l.length hm l.length 0 l (by omega) rfl (by simp)
  rw [show n + 2 * ((0 : Nat) : Int) = n by omega] at h
  exact h
end Go.Proofs.YtfcbdfedolnkfaaDoor.UQ
namespace Go.Proofs.YtfcbdfedolnkfaaDoor.UQ
open Go.RowKit Go.Proofs.YtfcbdfedolnkfaaDoorW.PrintWords Go.Proofs.YtfcbdfedolnkfaaDoorW.PrintMore Go.Proofs.YtfcbdfedolnkfaaDoor.P Go.Proofs.YtfcbdfedolnkfaaDoor.U Go.Proofs.YtfcbdfedolnkfaaDoor.UT
set_option linter.unusedVariables false

theorem heldQ_l (n : Int) (hn : 0 ≤ n ∧ n ≤ 4398046511104) (m : Nat) (hm : m ≤ 1048576) : ∀ d i, i + d = m → Ev (fun k => laws_heldStepS.l0 k (mkQ m n) (n + 2 * i) (i : Int)) (n + 2 * m) := by
  intro d
  induction d with
  | zero =>
    intro i hi
    refine Ev.step (fun k => by simp only [laws_heldStepS.l0]; rfl) (ev_neg (by rw [mkQ_length]; omega) (ev_const ?_))
    rw [show i = m by omega]
  | succ d ih =>
    intro i hi
    have hlt : i < (mkQ m n).length := by rw [mkQ_length]; omega
    refine Ev.step (fun k => by simp only [laws_heldStepS.l0]; rfl) (ev_pos (by omega) (ev_pos (by omega) ?_))
    rw [wsucc (n := m) (by omega) (by omega), wr (x := n + 2 * (i : Int) + 1) (by omega) (by omega), wr (x := n + 2 * (i : Int) + 1 + 1) (by omega) (by omega), rd_q _ i hlt, mkQ_get]
    refine ev_pos rfl (ev_pos rfl ?_)
    rw [show n + 2 * (i : Int) + 1 + 1 = n + 2 * ((i + 1 : Nat) : Int) by omega]
    exact ih (i + 1) (by omega)
theorem heldQ (m : Nat) (n : Int) (hn : 0 ≤ n ∧ n ≤ 4398046511104) (hm : m ≤ 1048576) : Ev (fun k => laws_heldStepS.f k (mkQ m n) n) (n + 2 * (m : Int)) := by
  unfold laws_heldStepS.f
  have h := heldQ_l n hn m hm m 0 (by omega)
  rw [show n + 2 * ((0 : Nat) : Int) = n by omega] at h
  exact h
end Go.Proofs.YtfcbdfedolnkfaaDoor.UQ
namespace Go.Proofs.YtfcbdfedolnkfaaDoor.UK
open Go.RowKit Go.Proofs.YtfcbdfedolnkfaaDoorW.PrintWords Go.Proofs.YtfcbdfedolnkfaaDoorW.PrintMore Go.Proofs.YtfcbdfedolnkfaaDoor.P Go.Proofs.YtfcbdfedolnkfaaDoor.U Go.Proofs.YtfcbdfedolnkfaaDoor.UT
set_option linter.unusedVariables false

/-! What holds from some number of rounds on. -/
def EvP (P : Nat → Prop) : Prop := ∃ K, ∀ k, K ≤ k → P k
theorem EvP.rounds {P : Nat → Prop} (h : EvP P) : ∃ k, P k := by
  obtain ⟨K, h⟩ := h
  exact ⟨K, h K (Nat.le_refl _)⟩
theorem EvP.tr : EvP fun _ => True := ⟨0, fun _ _ => trivial⟩
theorem EvP.bind {α : Type} {g : Nat → Option α} {r : α} {Q : Nat → α → Prop} (h : Ev g r) (hq : EvP fun k => Q k r) : EvP fun k => ∃ t, g k = some t ∧ Q k t := by
  obtain ⟨K, h⟩ := h
  obtain ⟨K', h'⟩ := hq
  exact ⟨max K K', fun k hk => ⟨r, h k (by omega), h' k (by omega)⟩⟩
theorem EvP.bind2 {α β : Type} {g : Nat → Option (α × β)} {r : α} {s : β} {Q : Nat → α → β → Prop} (h : Ev g (r, s)) (hq : EvP fun k => Q k r s) : EvP fun k => ∃ t u, g k = some (t, u) ∧ Q k t u := by
  obtain ⟨K, h⟩ := h
  obtain ⟨K', h'⟩ := hq
  exact ⟨max K K', fun k hk => ⟨r, s, h k (by omega), h' k (by omega)⟩⟩
theorem EvP.bind3 {α β γ : Type} {g : Nat → Option (α × β × γ)} {r : α} {s : β} {v : γ} {Q : Nat → α → β → γ → Prop} (h : Ev g (r, s, v)) (hq : EvP fun k => Q k r s v) : EvP fun k => ∃ t u x, g k = some (t, u, x) ∧ Q k t u x := by
  obtain ⟨K, h⟩ := h
  obtain ⟨K', h'⟩ := hq
  exact ⟨max K K', fun k hk => ⟨r, s, v, h k (by omega), h' k (by omega)⟩⟩
theorem EvP.bind4 {α β γ δ : Type} {g : Nat → Option (α × β × γ × δ)} {r : α} {s : β} {v : γ} {z : δ} {Q : Nat → α → β → γ → δ → Prop} (h : Ev g (r, s, v, z)) (hq : EvP fun k => Q k r s v z) : EvP fun k => ∃ t u x y, g k = some (t, u, x, y) ∧ Q k t u x y := by
  obtain ⟨K, h⟩ := h
  obtain ⟨K', h'⟩ := hq
  exact ⟨max K K', fun k hk => ⟨r, s, v, z, h k (by omega), h' k (by omega)⟩⟩
theorem EvP.out {c : Prop} {Q : Nat → Prop} (h : c) : EvP fun k => c ∨ Q k := ⟨0, fun _ _ => Or.inl h⟩
theorem EvP.on {c : Prop} {Q : Nat → Prop} (h : ¬ c) (hq : EvP Q) : EvP fun k => c ∨ ¬ c ∧ Q k := by
  obtain ⟨K, hq⟩ := hq
  exact ⟨K, fun k hk => Or.inr ⟨h, hq k hk⟩⟩
theorem EvP.no {c : Prop} {Q : Nat → Prop} (h : ¬ c) (hq : EvP Q) : EvP fun k => ¬ c ∧ Q k := by
  obtain ⟨K, hq⟩ := hq
  exact ⟨K, fun k hk => ⟨h, hq k hk⟩⟩
theorem EvP.yes {c : Prop} {Q : Nat → Prop} (h : c) (hq : EvP Q) : EvP fun k => c ∧ Q k := by
  obtain ⟨K, hq⟩ := hq
  exact ⟨K, fun k hk => ⟨h, hq k hk⟩⟩

/-! Lists of numbers. -/
def mk1 (m : Nat) (n : Int) : List Int := (List.range m).map fun j : Nat => n + (j : Int)
theorem mk1_length (m : Nat) (n : Int) : (mk1 m n).length = m := by simp [mk1]
theorem mk1_get (m : Nat) (n : Int) (i : Nat) (h : i < (mk1 m n).length) : (mk1 m n)[i] = n + i := by simp [mk1]
theorem mark1_l (n : Int) (hn : 0 ≤ n ∧ n ≤ 4398046511104) (m : Nat) (hm : m ≤ 1048576) : ∀ d i (acc : List Int), i + d = m → acc.length = m → acc.take i = (mk1 m n).take i → Ev (fun k => laws_markIntS.l0 k acc (n + i) (i : Int)) (n + m, mk1 m n) := by
  intro d
  induction d with
  | zero =>
    intro i acc hi ha ht
    refine Ev.step (fun k => by simp only [laws_markIntS.l0]; rfl) (ev_neg (by omega) (ev_const ?_))
    rw [List.take_of_length_le (by omega), List.take_of_length_le (by rw [mk1_length]; omega)] at ht
    rw [ht, show i = m by omega]
  | succ d ih =>
    intro i acc hi ha ht
    have hlt : i < acc.length := by omega
    refine Ev.step (fun k => by simp only [laws_markIntS.l0]; rfl) ?_
    refine ev_pos (by omega) (ev_pos (by omega) ?_)
    rw [wsucc (n := m) (by omega) (by omega), Int.toNat_natCast, wr (x := n + (i : Int) + 1) (by omega) (by omega)]
    rw [show n + (i : Int) + 1 = n + ((i + 1 : Nat) : Int) by omega]
    refine ih (i + 1) _ (by omega) (by rw [List.length_set]; exact ha) ?_
    rw [fill_step ht hlt, List.take_succ_eq_append_getElem (show i < (mk1 m n).length by rw [mk1_length]; omega), mk1_get]
theorem mark1 (l : List Int) (n : Int) (hn : 0 ≤ n ∧ n ≤ 4398046511104) (hm : l.length ≤ 1048576) : Ev (fun k => laws_markIntS.f k l n) (n + (l.length : Int), mk1 l.length n) := by
  unfold laws_markIntS.f
  have h := mark1_l n hn l.length hm l.length 0 l (by omega) rfl (by simp)
  rw [show n + ((0 : Nat) : Int) = n by omega] at h
  exact h
/-! Rows of numbers. -/
def sumL : List (List Int) → Int
  | [] => 0
  | r :: l => (r.length : Int) + sumL l
def mk2 : List (List Int) → Int → List (List Int)
  | [], _ => []
  | r :: l, n => mk1 r.length n :: mk2 l (n + r.length)
theorem mk2_length : ∀ (l : List (List Int)) (n : Int), (mk2 l n).length = l.length
  | [], _ => rfl
  | _ :: l, n => by simp [mk2, mk2_length l]
theorem sumL_cons (r : List Int) (l : List (List Int)) : sumL (r :: l) = (r.length : Int) + sumL l := rfl
theorem mk2_cons (r : List Int) (l : List (List Int)) (n : Int) : mk2 (r :: l) n = mk1 r.length n :: mk2 l (n + r.length) := rfl
theorem sumL_pos : ∀ (l : List (List Int)), 0 ≤ sumL l
  | [] => Int.le_refl 0
  | r :: l => by have := sumL_pos l; unfold sumL; omega
theorem sumL_le (c : Nat) : ∀ (l : List (List Int)), (∀ x, x ∈ l → x.length ≤ c) → sumL l ≤ (l.length : Int) * (c : Int)
  | [], _ => by simp [sumL]
  | r :: l, h => by
    have h1 := sumL_le c l (fun x hx => h x (List.mem_cons_of_mem _ hx))
    have h2 := h r List.mem_cons_self
    unfold sumL
    rw [List.length_cons, show ((l.length + 1 : Nat) : Int) * (c : Int) = (l.length : Int) * (c : Int) + c by rw [Int.natCast_add, Int.add_mul]; simp]
    omega
theorem set_prefix (pre : List (List Int)) (x y : List Int) (suf : List (List Int)) : (pre ++ x :: suf).set pre.length y = pre ++ y :: suf := by
  simp
theorem getD_prefix (pre : List (List Int)) (x : List Int) (suf : List (List Int)) : (pre ++ x :: suf).getD pre.length [] = x := by
  simp [List.getD]
theorem mark2_l : ∀ (suf pre : List (List Int)) (n : Int), 0 ≤ n → n + sumL suf ≤ 4398046511104 → (pre ++ suf).length ≤ 1048576 → (∀ x, x ∈ suf → x.length ≤ 1048576) →
    Ev (fun k => laws_markIntSS.l0 k (pre ++ suf) n (pre.length : Int)) (n + sumL suf, pre ++ mk2 suf n)
  | [], pre, n, h0, h1, hl, hx => by
    refine Ev.step (fun k => by simp only [laws_markIntSS.l0]; rfl) (ev_neg (by simp) (ev_const ?_))
    simp [sumL, mk2]
  | r :: suf, pre, n, h0, h1, hl, hx => by
    have hr := hx r List.mem_cons_self
    have hp := sumL_pos suf
    rw [sumL_cons] at h1
    have hl2 : pre.length + suf.length + 1 ≤ 1048576 := by simp at hl; omega
    refine Ev.step (fun k => by simp only [laws_markIntSS.l0]; rfl) (ev_pos (by simp; omega) (ev_pos (by omega) ?_))
    rw [Int.toNat_natCast, getD_prefix, wsucc (n := 1048576) (by omega) (by omega)]
    refine Ev.bind (mark1 r n ⟨h0, by omega⟩ hr) ?_
    rw [set_prefix]
    have ih := mark2_l suf (pre ++ [mk1 r.length n]) (n + r.length) (by omega) (by omega) (by simp; omega) (fun x h => hx x (List.mem_cons_of_mem _ h))
    rw [List.length_append, List.length_singleton, List.append_assoc, List.append_assoc] at ih
    refine ev_eq ih ?_
    rw [mk2_cons, sumL_cons]
    simp; omega
theorem mark2 (l : List (List Int)) (n : Int) (h0 : 0 ≤ n) (h1 : n + sumL l ≤ 4398046511104) (hl : l.length ≤ 1048576) (hx : ∀ x, x ∈ l → x.length ≤ 1048576) : Ev (fun k => laws_markIntSS.f k l n) (n + sumL l, mk2 l n) := by
  unfold laws_markIntSS.f
  exact mark2_l l [] n h0 h1 hl hx
theorem sumL_big {l : List (List Int)} (hl : l.length ≤ 1048576) (hx : ∀ x, x ∈ l → x.length ≤ 1048576) : sumL l ≤ 1099511627776 := by
  have h := sumL_le 1048576 l hx
  have h2 : (l.length : Int) * ((1048576 : Nat) : Int) ≤ 1048576 * 1048576 := by
    have := Int.mul_le_mul_of_nonneg_right (show (l.length : Int) ≤ 1048576 by omega) (show (0 : Int) ≤ ((1048576 : Nat) : Int) by omega)
    simpa using this
  omega
end Go.Proofs.YtfcbdfedolnkfaaDoor.UK
namespace Go.Proofs.YtfcbdfedolnkfaaDoor.UY
open Go.RowKit Go.Proofs.YtfcbdfedolnkfaaDoorW.PrintWords Go.Proofs.YtfcbdfedolnkfaaDoorW.PrintMore Go.Proofs.YtfcbdfedolnkfaaDoor.P Go.Proofs.YtfcbdfedolnkfaaDoor.U Go.Proofs.YtfcbdfedolnkfaaDoor.UT Go.Proofs.YtfcbdfedolnkfaaDoor.UQ
set_option linter.unusedVariables false

/-- The place of a number in an order, or the order's length. -/
def rk : List Int → Int → Nat
  | [], _ => 0
  | x :: l, n => if x = n then 0 else rk l n + 1
theorem rk_le : ∀ (l : List Int) (n : Int), rk l n ≤ l.length
  | [], _ => Nat.le_refl _
  | x :: l, n => by
    have := rk_le l n
    rw [rk, List.length_cons]
    split <;> omega
/-- The numbers of a stack that stand above earlier ones; t: the earliest rank below. -/
def bdR (o : List Int) : List Int → Nat → Nat
  | [], _ => 0
  | n :: l, t => if t < rk o n then bdR o l t + 1 else bdR o l (rk o n)
def mnR (o : List Int) : List Int → Nat → Nat
  | [], t => t
  | n :: l, t => if t < rk o n then mnR o l t else mnR o l (rk o n)
def bd (o : List Int) : List (List Int) → Nat
  | [] => 0
  | r :: l => bdR o r o.length + bd o l
def pls (o : List Int) (l : List Int) (x : Int) (t : Nat) : Nat := if mnR o l t < rk o x then 1 else 0
theorem bdR_snoc (o : List Int) : ∀ (l : List Int) (x : Int) (t : Nat), bdR o (l ++ [x]) t = bdR o l t + pls o l x t
  | [], x, t => by
    unfold pls mnR
    show bdR o [x] t = 0 + _
    rw [bdR, bdR, bdR]
    split <;> rfl
  | n :: l, x, t => by
    show bdR o (n :: (l ++ [x])) t = _
    rw [bdR, bdR]
    unfold pls
    rw [mnR]
    split
    · rw [bdR_snoc o l x t]; unfold pls; omega
    · rw [bdR_snoc o l x _]; rfl
theorem pls_le (o : List Int) (l : List Int) (x : Int) (t : Nat) : pls o l x t ≤ 1 := by unfold pls; split <;> omega
theorem bd_set (o : List Int) : ∀ (t : List (List Int)) (i : Nat) (r : List Int), i < t.length → bd o (t.set i r) + bdR o (t.getD i []) o.length = bd o t + bdR o r o.length
  | [], i, r, h => by simp at h
  | s :: t, 0, r, h => by
    show bdR o r o.length + bd o t + bdR o s o.length = bdR o s o.length + bd o t + bdR o r o.length
    omega
  | s :: t, i + 1, r, h => by
    have ih := bd_set o t i r (by simpa using h)
    show bdR o s o.length + bd o (t.set i r) + bdR o (t.getD i []) o.length = bdR o s o.length + bd o t + bdR o r o.length
    omega
theorem top_split {l : List (List Int)} {f : Nat} (h : 0 < (l.getD f []).length) : l.getD f [] = (l.getD f []).take ((l.getD f []).length - 1) ++ [mvTop l f] := by
  unfold mvTop
  generalize l.getD f [] = r at h
  rw [getD_at r (r.length - 1) 0 (by omega), ← List.take_succ_eq_append_getElem (by omega)]
  rw [show r.length - 1 + 1 = r.length by omega, List.take_length]
theorem bd_cut (o : List Int) {l : List (List Int)} {f : Nat} (hf : f < l.length) (h : 0 < (l.getD f []).length) : bd o l = bd o (mvCut l f) + pls o ((l.getD f []).take ((l.getD f []).length - 1)) (mvTop l f) o.length := by
  have h1 := bd_set o l f ((l.getD f []).take ((l.getD f []).length - 1)) hf
  have h2 : bdR o (l.getD f []) o.length = bdR o ((l.getD f []).take ((l.getD f []).length - 1)) o.length + pls o ((l.getD f []).take ((l.getD f []).length - 1)) (mvTop l f) o.length := by
    conv => lhs; rw [top_split h]
    exact bdR_snoc _ _ _ _
  unfold mvCut
  omega
theorem bd_mv (o : List Int) {l : List (List Int)} {f t : Nat} (hf : f < l.length) (h : 0 < (l.getD f []).length) (ht : t < l.length) : bd o l ≤ bd o (mvTab l f t) + 1 := by
  have h1 := bd_cut o hf h
  have h2 := bd_set o (mvCut l f) t ((mvCut l f).getD t [] ++ [mvTop l f]) (by unfold mvCut; rw [List.length_set]; exact ht)
  rw [bdR_snoc] at h2
  have h3 := pls_le o ((l.getD f []).take ((l.getD f []).length - 1)) (mvTop l f) o.length
  unfold mvTab
  omega
theorem bdR_pop (n : Int) (o : List Int) : ∀ (l : List Int) (t : Nat), ¬ n ∈ l → bdR (n :: o) l (t + 1) = bdR o l t
  | [], _, _ => rfl
  | x :: l, t, h => by
    have hx : ¬ n = x := fun e => h (by simp [e])
    have hl : ¬ n ∈ l := fun e => h (by simp [e])
    rw [bdR, bdR, rk, if_neg hx]
    by_cases c : t < rk o x
    · rw [if_pos (by omega), if_pos c, bdR_pop n o l t hl]
    · rw [if_neg (by omega), if_neg c, bdR_pop n o l _ hl]
theorem bd_pop (n : Int) (o : List Int) : ∀ (l : List (List Int)), (∀ r, r ∈ l → ¬ n ∈ r) → bd (n :: o) l = bd o l
  | [], _ => rfl
  | r :: l, h => by
    rw [bd, bd, List.length_cons, bdR_pop n o r _ (h r (by simp)), bd_pop n o l (fun r hr => h r (by simp [hr]))]
theorem mnR_zero (n : Int) (o : List Int) : ∀ (l : List Int) (t : Nat), t = 0 ∨ n ∈ l → mnR (n :: o) l t = 0
  | [], t, h => by
    rcases h with h | h
    · exact h
    · cases h
  | x :: l, t, h => by
    rw [mnR]
    rcases h with h | h
    · subst h
      split
      · exact mnR_zero n o l 0 (Or.inl rfl)
      · exact mnR_zero n o l _ (Or.inl (by omega))
    · rcases List.mem_cons.1 h with h | h
      · subst h
        rw [show rk (n :: o) n = 0 by rw [rk, if_pos rfl], if_neg (by omega)]
        exact mnR_zero n o l 0 (Or.inl rfl)
      · split
        · exact mnR_zero n o l _ (Or.inr h)
        · exact mnR_zero n o l _ (Or.inr h)

/-- The numbers of a yard are below 100. -/
def nums (l : List (List Int)) : Prop := ∀ r, r ∈ l → ∀ x, x ∈ r → 0 ≤ x ∧ x < 100
theorem mem_at {l : List (List Int)} {r : List Int} (h : r ∈ l) {x : Int} (hx : x ∈ r) : ∃ f j, atY l x f j ∧ l.getD f [] = r := by
  obtain ⟨f, hf, rfl⟩ := List.getElem_of_mem h
  obtain ⟨j, hj, rfl⟩ := List.getElem_of_mem hx
  have e : l.getD f [] = l[f] := getD_at _ _ _ hf
  exact ⟨f, j, by unfold atY; rw [e]; exact List.getElem?_eq_getElem hj, e⟩
theorem at_mem {l : List (List Int)} {x : Int} {f j : Nat} (h : atY l x f j) : ∃ r, r ∈ l ∧ x ∈ r := by
  have h1 := (at_len h).1
  refine ⟨l[f], List.getElem_mem h1, ?_⟩
  unfold atY at h
  rw [getD_at _ _ _ h1] at h
  exact List.mem_of_getElem? h
theorem nums_iff {l : List (List Int)} : nums l ↔ ∀ x f j, atY l x f j → 0 ≤ x ∧ x < 100 := by
  constructor
  · intro h x f j hx
    obtain ⟨r, hr, hx⟩ := at_mem hx
    exact h r hr x hx
  · intro h r hr x hx
    obtain ⟨f, j, h1, _⟩ := mem_at hr hx
    exact h x f j h1
/-- What stands while a plan is searched. -/
def inv (o : List Int) (l : List (List Int)) : Prop := low l ∧ once l ∧ (∀ n, n ∈ o → ∃ f j, atY l n f j) ∧ o.Nodup ∧ nums l
theorem inv.head {n : Int} {o : List Int} {l : List (List Int)} (h : inv (n :: o) l) : ∃ f j, atY l n f j ∧ findR n l 0 = ((f : Int), (j : Int)) := by
  obtain ⟨f, j, h1⟩ := h.2.2.1 n (by simp)
  exact ⟨f, j, h1, find_at h.2.1 h1⟩
theorem row4 {o : List Int} {l : List (List Int)} (h : inv o l) (f : Nat) : (l.getD f []).length ≤ 4 := by
  by_cases hf : f < l.length
  · rw [getD_at _ _ _ hf]; exact h.1.2.2 _ (List.getElem_mem hf)
  · rw [getD_out (by omega)]; simp
theorem top_at {l : List (List Int)} {n : Int} {f j : Nat} (h : atY l n f j) (hj : (l.getD f []).length = j + 1) : mvTop l f = n := by
  have h1 := at_top (l := l) (f := f) (by omega)
  rw [hj, Nat.add_sub_cancel] at h1
  unfold atY at h h1
  rw [h] at h1
  exact (Option.some.inj h1).symm
theorem inv.pop {n : Int} {o : List Int} {l : List (List Int)} (h : inv (n :: o) l) {f j : Nat} (hn : atY l n f j) (hj : (l.getD f []).length = j + 1) : inv o (mvCut l f) := by
  obtain ⟨h1, h2, h3, h4, h5⟩ := h
  refine ⟨cut_low h1 f, once_cut h2 f, fun m hm => ?_, (List.nodup_cons.1 h4).2, nums_iff.2 fun x g q hx => nums_iff.1 h5 x g q (at_cut.1 hx).1⟩
  obtain ⟨g, q, hg⟩ := h3 m (by simp [hm])
  refine ⟨g, q, at_cut.2 ⟨hg, fun e => ?_⟩⟩
  obtain ⟨rfl, rfl⟩ := e
  rw [hj, Nat.add_sub_cancel] at hg
  unfold atY at hg hn
  rw [hg] at hn
  exact (List.nodup_cons.1 h4).1 (Option.some.inj hn ▸ hm)
theorem inv.gone {n : Int} {o : List Int} {l : List (List Int)} (h : inv (n :: o) l) {f j : Nat} (hn : atY l n f j) (hj : (l.getD f []).length = j + 1) : ∀ r, r ∈ mvCut l f → ¬ n ∈ r := by
  intro r hr hx
  obtain ⟨g, q, h1, _⟩ := mem_at hr hx
  obtain ⟨h2, h3⟩ := at_cut.1 h1
  obtain ⟨rfl, rfl⟩ := h.2.1 n g q f j h2 hn
  exact h3 ⟨rfl, by omega⟩
theorem inv.mv {o : List Int} {l : List (List Int)} (h : inv o l) {f t : Nat} (htf : t ≠ f) (ht : t < l.length) (h0 : 0 < (l.getD f []).length) (h4 : (l.getD t []).length ≠ 4) : inv o (mvTab l f t) := by
  have ht3 : (l.getD t []).length ≤ 3 := by have := row4 h t; omega
  obtain ⟨h1, h2, h3, hd, h5⟩ := h
  refine ⟨mv_low h1 f t htf ht3, once_mv h2 htf ht h0, fun m hm => ?_, hd, nums_iff.2 fun x g q hx => ?_⟩
  · obtain ⟨g, q, hg⟩ := h3 m hm
    by_cases e : g = f ∧ q = (l.getD f []).length - 1
    · obtain ⟨rfl, rfl⟩ := e
      have h6 := at_top (l := l) h0
      unfold atY at hg h6
      rw [hg] at h6
      exact ⟨t, _, (at_mv htf ht).2 (Or.inr ⟨rfl, rfl, Option.some.inj h6⟩)⟩
    · exact ⟨g, q, (at_mv htf ht).2 (Or.inl ⟨hg, e⟩)⟩
  · rcases (at_mv htf ht).1 hx with h6 | ⟨_, _, rfl⟩
    · exact nums_iff.1 h5 x g q h6.1
    · exact nums_iff.1 h5 _ _ _ (at_top h0)
theorem inv.stay {n : Int} {o : List Int} {l : List (List Int)} (h : inv (n :: o) l) {f j t : Nat} (hn : atY l n f j) (hj : (l.getD f []).length ≠ j + 1) (htf : t ≠ f) (ht : t < l.length) : atY (mvTab l f t) n f j ∧ ((mvTab l f t).getD f []).length = (l.getD f []).length - 1 := by
  have hl := at_len hn
  refine ⟨(at_mv htf ht).2 (Or.inl ⟨hn, fun e => by have := e.2; omega⟩), ?_⟩
  rw [mv_getD l f t f ht, if_neg (fun e => htf e.symm), cut_getD, if_pos rfl, List.length_take]
  omega
theorem bd_top {n : Int} {o : List Int} {l : List (List Int)} (h : inv (n :: o) l) {f j : Nat} (hn : atY l n f j) (hj : (l.getD f []).length = j + 1) : bd (n :: o) l = bd o (mvCut l f) := by
  have hl := at_len hn
  rw [bd_cut (n :: o) hl.1 (by omega), top_at hn hj, bd_pop n o _ (h.gone hn hj)]
  unfold pls
  rw [show rk (n :: o) n = 0 by rw [rk, if_pos rfl], if_neg (by omega)]
  rfl
theorem bd_pos {n : Int} {o : List Int} {l : List (List Int)} (h : inv (n :: o) l) {f j : Nat} (hn : atY l n f j) (hj : (l.getD f []).length ≠ j + 1) : 1 ≤ bd (n :: o) l := by
  have hl := at_len hn
  rw [bd_cut (n :: o) hl.1 (by omega)]
  have hne : ¬ n = mvTop l f := fun e => by
    have h1 := at_top (l := l) (f := f) (by omega)
    rw [← e] at h1
    have := (h.2.1 n f j f _ hn h1).2
    omega
  unfold pls
  rw [mnR_zero n o _ _ (Or.inr ?_), show rk (n :: o) (mvTop l f) = rk o (mvTop l f) + 1 by rw [rk, if_neg hne], if_pos (by omega)]
  · omega
  · unfold atY at hn
    refine List.mem_of_getElem? (i := j) ?_
    rw [List.getElem?_take, if_pos (by omega)]
    exact hn

/-- The stacks are tried, from stack i on. -/
def tryTo (go : List (List Int) → Option (List Q)) (t : List (List Int)) (f : Nat) : Nat → Nat → Option (List Q)
  | 0, _ => none
  | m + 1, i => if i = f ∨ (t.getD i []).length = 4 then tryTo go t f m (i + 1) else match go (mvTab t f i) with
    | some rest => some (⟨mvTop t f, (i : Int)⟩ :: rest)
    | none => tryTo go t f m (i + 1)
def serO (go : List (List Int) → List Int → Option (List Q)) (most : Nat) : List Int → List (List Int) → Option (List Q)
  | [], _ => some []
  | n :: o, t => if most < bd (n :: o) t then none else
      if (findR n t 0).2 = ((t.getD (findR n t 0).1.toNat []).length : Int) - 1 then (serO go most o (mvCut t (findR n t 0).1.toNat)).map (⟨n, -1⟩ :: ·)
      else tryTo (fun t2 => go t2 (n :: o)) t (findR n t 0).1.toNat t.length 0
/-- The first plan with at most so many relocations. -/
def ser : Nat → List Int → List (List Int) → Option (List Q)
  | 0 => serO (fun _ _ => none) 0
  | m + 1 => serO (fun t o => ser m o t) (m + 1)
def goS (most : Nat) (t : List (List Int)) (o : List Int) : Option (List Q) := match most with
  | 0 => none
  | m + 1 => ser m o t
theorem ser_eq (most : Nat) (o : List Int) (t : List (List Int)) : ser most o t = serO (goS most) most o t := by
  cases most <;> rfl
theorem ser_nil (most : Nat) (t : List (List Int)) : ser most [] t = some [] := by rw [ser_eq]; rfl
theorem ser_pop {most : Nat} {n : Int} {o : List Int} {t : List (List Int)} {f j : Nat} (h : inv (n :: o) t) (hn : atY t n f j) (hj : (t.getD f []).length = j + 1) (hb : bd (n :: o) t ≤ most) : ser most (n :: o) t = (ser most o (mvCut t f)).map (⟨n, -1⟩ :: ·) := by
  have e := find_at h.2.1 hn
  rw [ser_eq, serO, e, if_neg (by omega), if_pos (by show (j : Int) = _; rw [Int.toNat_natCast, hj]; omega), ser_eq]
  rfl
theorem ser_try {most : Nat} {n : Int} {o : List Int} {t : List (List Int)} {f j : Nat} (h : inv (n :: o) t) (hn : atY t n f j) (hj : (t.getD f []).length ≠ j + 1) (hb : bd (n :: o) t ≤ most) : ser most (n :: o) t = tryTo (fun t2 => goS most t2 (n :: o)) t f t.length 0 := by
  have e := find_at h.2.1 hn
  rw [ser_eq, serO, e, if_neg (by omega), if_neg (by show ¬ (j : Int) = _; rw [Int.toNat_natCast]; omega)]
  rfl
theorem ser_no {most : Nat} {n : Int} {o : List Int} {t : List (List Int)} (hb : most < bd (n :: o) t) : ser most (n :: o) t = none := by
  rw [ser_eq, serO, if_pos hb]
/-- How many steps relocate. -/
def rel : List Q → Nat
  | [] => 0
  | s :: l => (if s.f1 = -1 then 0 else 1) + rel l
def capO : List Int → List (List Int) → Nat
  | [], _ => 0
  | n :: o, t => ((t.getD (findR n t 0).1.toNat []).length - 1 - (findR n t 0).2.toNat) + 3 * o.length
theorem capO_le {o : List Int} {t : List (List Int)} (h : inv o t) : capO o t ≤ 3 * o.length := by
  cases o with
  | nil => exact Nat.le_refl _
  | cons n o =>
    have := row4 h (findR n t 0).1.toNat
    rw [capO, List.length_cons]
    omega
theorem try_some {go : List (List Int) → Option (List Q)} {t : List (List Int)} {f : Nat} : ∀ (d i : Nat) (l : List Q), i + d = t.length → tryTo go t f d i = some l → ∃ (q : Nat) (rest : List Q), i ≤ q ∧ q < t.length ∧ q ≠ f ∧ (t.getD q []).length ≠ 4 ∧ go (mvTab t f q) = some rest ∧ l = ⟨mvTop t f, (q : Int)⟩ :: rest
  | 0, i, l, hi, h => by cases h
  | d + 1, i, l, hi, h => by
    rw [tryTo] at h
    split at h
    · obtain ⟨q, rest, h1, h2⟩ := try_some d (i + 1) l (by omega) h
      exact ⟨q, rest, by omega, h2⟩
    · rename_i hc
      cases hg : go (mvTab t f i) with
      | some rest =>
        rw [hg] at h
        exact ⟨i, rest, Nat.le_refl _, by omega, fun e => hc (Or.inl e), fun e => hc (Or.inr e), hg, (Option.some.inj h).symm⟩
      | none =>
        rw [hg] at h
        obtain ⟨q, rest, h1, h2⟩ := try_some d (i + 1) l (by omega) h
        exact ⟨q, rest, by omega, h2⟩
theorem try_is {go : List (List Int) → Option (List Q)} {t : List (List Int)} {f q : Nat} (hq : q < t.length) (hf : q ≠ f) (h4 : (t.getD q []).length ≠ 4) (hg : (go (mvTab t f q)).isSome = true) : ∀ (d i : Nat), i + d = t.length → i ≤ q → (tryTo go t f d i).isSome = true
  | 0, i, hi, h => by omega
  | d + 1, i, hi, h => by
    rw [tryTo]
    by_cases e : i = q
    · subst e
      rw [if_neg (by rintro (e | e); exact hf e; exact h4 e)]
      cases hh : go (mvTab t f i) with
      | some rest => rfl
      | none => rw [hh] at hg; cases hg
    · split
      · exact try_is hq hf h4 hg d (i + 1) (by omega) (by omega)
      · cases hh : go (mvTab t f i) with
        | some rest => rfl
        | none => exact try_is hq hf h4 hg d (i + 1) (by omega) (by omega)
/-- A plan that was found: the bound is not above its relocations; there are few of them; with as many, one is found. -/
theorem ser_cap : ∀ (most : Nat) (o : List Int) (t : List (List Int)) (l : List Q), inv o t → ser most o t = some l → (bd o t ≤ rel l ∧ rel l ≤ capO o t ∧ rel l ≤ most) ∧ ∀ m, rel l ≤ m → (ser m o t).isSome = true := by
  intro most
  induction most with
  | zero =>
    intro o
    induction o with
    | nil =>
      intro t l hi h
      rw [ser_nil] at h
      obtain rfl := Option.some.inj h
      refine ⟨⟨?_, Nat.zero_le _, Nat.zero_le _⟩, fun m _ => by rw [ser_nil]; rfl⟩
      have : ∀ t : List (List Int), bd [] t = 0 := by
        intro t
        have hr : ∀ (r : List Int), bdR [] r 0 = 0 := by
          intro r
          induction r with
          | nil => rfl
          | cons x r ih => rw [bdR, if_neg (show ¬ 0 < rk [] x from Nat.lt_irrefl 0)]; exact ih
        induction t with
        | nil => rfl
        | cons r t ih => rw [bd, ih, show ([] : List Int).length = 0 from rfl, hr]
      rw [this]
      exact Nat.zero_le _
    | cons n o ih =>
      intro t l hi h
      obtain ⟨f, j, hn, hf⟩ := hi.head
      by_cases hb : 0 < bd (n :: o) t
      · rw [ser_no hb] at h; cases h
      by_cases hj : (t.getD f []).length = j + 1
      · rw [ser_pop hi hn hj (by omega)] at h
        obtain ⟨rest, hr, rfl⟩ := Option.map_eq_some_iff.1 h
        obtain ⟨⟨h1, h2, h3⟩, h4⟩ := ih _ rest (hi.pop hn hj) hr
        have e : rel ((⟨n, -1⟩ : Q) :: rest) = rel rest := by show (if (-1 : Int) = -1 then 0 else 1) + rel rest = _; rw [if_pos rfl]; omega
        have hc := capO_le (hi.pop hn hj)
        rw [e]
        refine ⟨⟨by rw [bd_top hi hn hj]; exact h1, by rw [capO]; omega, h3⟩, fun m hm => ?_⟩
        rw [ser_pop hi hn hj (by rw [bd_top hi hn hj]; omega)]
        have h5 := h4 m hm
        cases hs : ser m o (mvCut t f) with
        | some x => rfl
        | none => rw [hs] at h5; cases h5
      · exact absurd (bd_pos hi hn hj) hb
  | succ most IH =>
    intro o
    induction o with
    | nil =>
      intro t l hi h
      rw [ser_nil] at h
      obtain rfl := Option.some.inj h
      refine ⟨⟨?_, Nat.zero_le _, Nat.zero_le _⟩, fun m _ => by rw [ser_nil]; rfl⟩
      have h1 := (IH [] t [] hi (ser_nil _ _)).1.1
      exact h1
    | cons n o ih =>
      intro t l hi h
      obtain ⟨f, j, hn, hf⟩ := hi.head
      have hl := at_len hn
      by_cases hb : most + 1 < bd (n :: o) t
      · rw [ser_no hb] at h; cases h
      by_cases hj : (t.getD f []).length = j + 1
      · rw [ser_pop hi hn hj (by omega)] at h
        obtain ⟨rest, hr, rfl⟩ := Option.map_eq_some_iff.1 h
        obtain ⟨⟨h1, h2, h3⟩, h4⟩ := ih _ rest (hi.pop hn hj) hr
        have e : rel ((⟨n, -1⟩ : Q) :: rest) = rel rest := by show (if (-1 : Int) = -1 then 0 else 1) + rel rest = _; rw [if_pos rfl]; omega
        have hc := capO_le (hi.pop hn hj)
        rw [e]
        refine ⟨⟨by rw [bd_top hi hn hj]; exact h1, by rw [capO]; omega, h3⟩, fun m hm => ?_⟩
        rw [ser_pop hi hn hj (by rw [bd_top hi hn hj]; omega)]
        have h5 := h4 m hm
        cases hs : ser m o (mvCut t f) with
        | some x => rfl
        | none => rw [hs] at h5; cases h5
      · rw [ser_try hi hn hj (by omega)] at h
        obtain ⟨q, rest, _, hq, hqf, hq4, hg, rfl⟩ := try_some _ _ _ (by omega) h
        have him := hi.mv hqf hq (by omega) hq4
        obtain ⟨⟨h1, h2, h3⟩, h4⟩ := IH _ _ rest him hg
        have e : rel ((⟨mvTop t f, (q : Int)⟩ : Q) :: rest) = rel rest + 1 := by show (if (q : Int) = -1 then 0 else 1) + rel rest = _; rw [if_neg (by omega)]; omega
        have hs := hi.stay hn hj hqf hq
        have hbm := bd_mv (n :: o) (f := f) (t := q) hl.1 (by omega) hq
        rw [e]
        refine ⟨⟨by omega, ?_, by omega⟩, fun m hm => ?_⟩
        · rw [capO, find_at him.2.1 hs.1] at h2
          rw [capO, hf]
          simp only [Int.toNat_natCast] at h2 ⊢
          rw [hs.2] at h2
          omega
        · cases m with
          | zero => omega
          | succ m =>
            rw [ser_try hi hn hj (by omega)]
            exact try_is hq hqf hq4 (h4 m (by omega)) _ 0 (by omega) (Nat.zero_le _)
/-- The first number of relocations, from m on, at which a plan is found. -/
def serF (o : List Int) (t : List (List Int)) : Nat → Nat → Option (List Q)
  | 0, _ => none
  | d + 1, m => match ser m o t with
    | some l => some l
    | none => serF o t d (m + 1)
theorem serF_none {o : List Int} {t : List (List Int)} : ∀ (d m : Nat), serF o t d m = none → ∀ q, m ≤ q → q < m + d → ser q o t = none
  | 0, m, h, q, h1, h2 => by omega
  | d + 1, m, h, q, h1, h2 => by
    rw [serF] at h
    cases hs : ser m o t with
    | some l => rw [hs] at h; cases h
    | none =>
      rw [hs] at h
      by_cases e : q = m
      · subst e; exact hs
      · exact serF_none d (m + 1) h q (by omega) (by omega)
theorem serF_all {o : List Int} {t : List (List Int)} : ∀ (d m : Nat), (∀ q, m ≤ q → q < m + d → ser q o t = none) → serF o t d m = none
  | 0, m, h => rfl
  | d + 1, m, h => by
    rw [serF, h m (Nat.le_refl _) (by omega)]
    exact serF_all d (m + 1) (fun q h1 h2 => h q (by omega) (by omega))
theorem serF_more {o : List Int} {t : List (List Int)} : ∀ (d e m : Nat) (l : List Q), serF o t d m = some l → serF o t (d + e) m = some l
  | 0, e, m, l, h => by cases h
  | d + 1, e, m, l, h => by
    rw [serF] at h
    rw [show d + 1 + e = (d + e) + 1 by omega, serF]
    cases hs : ser m o t with
    | some x => rw [hs] at h; exact h
    | none => rw [hs] at h; exact serF_more d e (m + 1) l h
/-- Past three relocations ahead of each retrieval nothing more is found. -/
theorem serF_lim {o : List Int} {t : List (List Int)} (h : inv o t) (d e : Nat) (hd : 3 * o.length < bd o t + d ∨ d = 0 ∧ 3 * o.length < bd o t) : serF o t (d + e) (bd o t) = serF o t d (bd o t) := by
  cases hs : serF o t d (bd o t) with
  | some l => exact serF_more d e _ l hs
  | none =>
    refine serF_all _ _ fun q h1 h2 => ?_
    cases hq : ser q o t with
    | none => rfl
    | some l =>
      obtain ⟨⟨h3, h4, h5⟩, h6⟩ := ser_cap q o t l h hq
      have hc := capO_le h
      have h7 := serF_none d _ hs (rel l) h3 (by omega)
      have h8 := h6 (rel l) (Nat.le_refl _)
      rw [h7] at h8
      cases h8
end Go.Proofs.YtfcbdfedolnkfaaDoor.UY
namespace Go.Proofs.YtfcbdfedolnkfaaDoor.UY
open Go.RowKit Go.Proofs.YtfcbdfedolnkfaaDoorW.PrintWords Go.Proofs.YtfcbdfedolnkfaaDoorW.PrintMore Go.Proofs.YtfcbdfedolnkfaaDoor.P Go.Proofs.YtfcbdfedolnkfaaDoor.U Go.Proofs.YtfcbdfedolnkfaaDoor.UT Go.Proofs.YtfcbdfedolnkfaaDoor.UQ
set_option linter.unusedVariables false

theorem rk_idx : ∀ (l : List Int) (n : Int), rk l n = l.idxOf n
  | [], n => rfl
  | x :: l, n => by
    rw [rk, List.idxOf_cons, rk_idx l n]
    by_cases e : x = n
    · rw [if_pos e]; subst e; simp
    · rw [if_neg e]
      have : (x == n) = false := beq_eq_false_iff_ne.mpr e
      rw [this]; rfl
theorem rk_out : ∀ (l : List Int) (n : Int), ¬ n ∈ l → rk l n = l.length
  | [], n, _ => rfl
  | x :: l, n, h => by
    rw [rk, if_neg (fun e => h (by simp [e])), rk_out l n (fun e => h (by simp [e])), List.length_cons]
theorem bdR_le (o : List Int) : ∀ (l : List Int) (t : Nat), bdR o l t ≤ l.length
  | [], _ => Nat.le_refl _
  | x :: l, t => by
    have h1 := bdR_le o l t
    have h2 := bdR_le o l (rk o x)
    rw [bdR, List.length_cons]
    split <;> omega
theorem mnR_snoc (o : List Int) : ∀ (l : List Int) (x : Int) (t : Nat), mnR o (l ++ [x]) t = if mnR o l t < rk o x then mnR o l t else rk o x
  | [], x, t => rfl
  | n :: l, x, t => by
    show mnR o (n :: (l ++ [x])) t = _
    rw [mnR, mnR]
    split
    · exact mnR_snoc o l x t
    · exact mnR_snoc o l x _
theorem mnR_lt (o : List Int) (s : Nat) : ∀ (l : List Int) (t : Nat), mnR o l t < s ↔ t < s ∨ (l.any fun y => decide (rk o y < s)) = true
  | [], t => by simp [mnR]
  | n :: l, t => by
    rw [mnR, List.any_cons, Bool.or_eq_true, decide_eq_true_eq]
    by_cases h : t < rk o n
    · rw [if_pos h, mnR_lt o s l t]
      constructor
      · rintro (h1 | h1)
        · exact Or.inl h1
        · exact Or.inr (Or.inr h1)
      · rintro (h1 | h1 | h1)
        · exact Or.inl h1
        · exact Or.inl (by omega)
        · exact Or.inr h1
    · rw [if_neg h, mnR_lt o s l _]
      constructor
      · rintro (h1 | h1)
        · exact Or.inr (Or.inl h1)
        · exact Or.inr (Or.inr h1)
      · rintro (h1 | h1 | h1)
        · exact Or.inl (by omega)
        · exact Or.inl h1
        · exact Or.inr h1
theorem rd_i (l : List Int) (i : Nat) (h : i < l.length) : rd l (i : Int) = l[i] := by
  unfold rd; rw [Int.toNat_natCast, getD_at _ _ _ h]

/-! The reference. -/
theorem rank_l (o : List Int) (n : Int) (ho : o.length ≤ 1048576) : ∀ d i, i + d = o.length → Ev (fun k => spec_l6Rank.l0 k o n (i : Int)) (((i + rk (o.drop i) n : Nat) : Int)) := by
  intro d
  induction d with
  | zero =>
    intro i hi
    refine Ev.step (fun k => by simp only [spec_l6Rank.l0]; rfl) (ev_neg (by omega) (ev_const ?_))
    rw [List.drop_of_length_le (by omega), rk]
    congr 1
    omega
  | succ d ih =>
    intro i hi
    have hlt : i < o.length := by omega
    refine Ev.step (fun k => by simp only [spec_l6Rank.l0]; rfl) (ev_pos (by omega) (ev_pos (by omega) ?_))
    rw [rd_i o i hlt, wsucc hlt (by omega), List.drop_eq_getElem_cons hlt, rk]
    by_cases e : o[i] = n
    · rw [if_pos e]
      exact ev_pos e (ev_const rfl)
    · rw [if_neg e]
      refine ev_neg e (ev_eq (ih (i + 1) (by omega)) ?_)
      congr 1
      omega
theorem rank_spec (o : List Int) (n : Int) (ho : o.length ≤ 1048576) : Ev (fun k => spec_l6Rank.f k o n) ((rk o n : Nat) : Int) := by
  unfold spec_l6Rank.f
  exact ev_eq (rank_l o n ho o.length 0 (by omega)) (by rw [List.drop_zero, Nat.zero_add])
theorem bound_2 (o : List Int) (ho : o.length ≤ 1048576) (t : List (List Int)) (i : Nat) (hi : i < t.length) (q : Nat) (hq : q < (t.getD i []).length) (hq4 : q ≤ 1000) (c : Nat) (res : Int) : ∀ d m (b : Bool), m + d = q →
    Ev (fun k => spec_l6Bound.l1 k o (if (b || (((t.getD i []).take q).drop m).any fun y => decide (rk o y < rk o ((t.getD i []).getD q 0))) = true then wrap64 ((c : Int) + 1) else (c : Int)) (i : Int) (wrap64 ((q : Int) + 1)) t) res →
    Ev (fun k => spec_l6Bound.l2 k o (c : Int) (i : Int) (q : Int) b (m : Int) t) res := by
  have hr : rd_L1 t (i : Int) = t.getD i [] := by rw [rd1_getD, Int.toNat_natCast]
  intro d
  induction d with
  | zero =>
    intro m b hm h
    refine Ev.step (fun k => by simp only [spec_l6Bound.l2]; rfl) (ev_neg (by omega) ?_)
    rw [List.drop_of_length_le (by rw [List.length_take]; omega), List.any_nil, Bool.or_false] at h
    cases b with
    | true => exact ev_pos rfl (by rw [if_pos rfl] at h; exact h)
    | false => exact ev_neg (by simp) (by rw [if_neg (by simp)] at h; exact h)
  | succ d ih =>
    intro m b hm h
    refine Ev.step (fun k => by simp only [spec_l6Bound.l2]; rfl) (ev_pos (by omega) ?_)
    have hml : m < ((t.getD i []).take q).length := by rw [List.length_take]; omega
    rw [List.drop_eq_getElem_cons hml, List.any_cons] at h
    rw [wsucc (show m < q by omega) (by omega), hr]
    cases b with
    | true =>
      refine ev_pos rfl (ih (m + 1) true (by omega) ?_)
      rw [Bool.true_or] at h ⊢
      exact h
    | false =>
      refine ev_neg (by simp) (ev_pos (by omega) (ev_pos (by omega) (ev_pos (by omega) (ev_pos (by omega) (Ev.bind (rank_spec o _ ho) (ev_pos (by omega) (ev_pos (by omega) (Ev.bind (rank_spec o _ ho) ?_))))))))
      rw [rd_i _ m (by omega), rd_i _ q hq]
      rw [getD_at _ q 0 hq] at h ih
      have e : decide (((rk o (t.getD i [])[m] : Nat) : Int) < ((rk o (t.getD i [])[q] : Nat) : Int)) = decide (rk o ((t.getD i []).take q)[m] < rk o (t.getD i [])[q]) := by
        rw [List.getElem_take]
        exact decide_eq_decide.mpr (by omega)
      rw [e]
      refine ih (m + 1) _ (by omega) ?_
      rw [Bool.false_or] at h
      exact h
theorem bound_1 (o : List Int) (ho : o.length ≤ 1048576) (t : List (List Int)) (i : Nat) (hi : i < t.length) (ht6 : t.length ≤ 6) (h4 : (t.getD i []).length ≤ 4) (res : Int) : ∀ d q (c : Nat), 1 ≤ q → (q + d = (t.getD i []).length ∨ d = 0 ∧ (t.getD i []).length ≤ q) → c + d ≤ 1000 →
    Ev (fun k => spec_l6Bound.l0 k o ((c + bdR o ((t.getD i []).drop q) (mnR o ((t.getD i []).take q) o.length) : Nat) : Int) ((i + 1 : Nat) : Int) t) res →
    Ev (fun k => spec_l6Bound.l1 k o (c : Int) (i : Int) (q : Int) t) res := by
  have hr : rd_L1 t (i : Int) = t.getD i [] := by rw [rd1_getD, Int.toNat_natCast]
  intro d
  induction d with
  | zero =>
    intro q c hq0 hq hc h
    rw [List.drop_of_length_le (by omega), bdR, Nat.add_zero] at h
    refine Ev.step (fun k => by simp only [spec_l6Bound.l1]; rfl) (ev_pos (by omega) (ev_pos (by omega) ?_))
    rw [hr, show wrap64 ((i : Int) + 1) = ((i + 1 : Nat) : Int) from by rw [wr (by omega) (by have := hi; omega)]; rfl]
    exact ev_neg (by omega) h
  | succ d ih =>
    intro q c hq0 hq hc h
    have hql : q < (t.getD i []).length := by omega
    refine Ev.step (fun k => by simp only [spec_l6Bound.l1]; rfl) (ev_pos (by omega) (ev_pos (by omega) ?_))
    rw [hr]
    refine ev_pos (by omega) (bound_2 o ho t i hi q hql (by omega) c res q 0 false (by omega) ?_)
    rw [List.drop_zero, Bool.false_or, show wrap64 ((q : Int) + 1) = ((q + 1 : Nat) : Int) from by rw [wr (by omega) (by omega)]; rfl, show wrap64 ((c : Int) + 1) = ((c + 1 : Nat) : Int) from by rw [wr (by omega) (by omega)]; rfl]
    have hiff := mnR_lt o (rk o ((t.getD i []).getD q 0)) ((t.getD i []).take q) o.length
    have hrk := rk_le o ((t.getD i []).getD q 0)
    rw [List.drop_eq_getElem_cons hql, bdR] at h
    have htk : (t.getD i []).take (q + 1) = (t.getD i []).take q ++ [(t.getD i [])[q]] := List.take_succ_eq_append_getElem hql
    rw [getD_at _ q 0 hql] at hiff hrk ⊢
    by_cases hb : mnR o ((t.getD i []).take q) o.length < rk o (t.getD i [])[q]
    · rw [if_pos hb] at h
      rcases hiff.1 hb with h1 | h1
      · omega
      rw [if_pos h1]
      refine ih (q + 1) (c + 1) (by omega) (Or.inl (by omega)) (by omega) ?_
      rw [htk, mnR_snoc, if_pos hb, show c + 1 + bdR o ((t.getD i []).drop (q + 1)) (mnR o ((t.getD i []).take q) o.length) = c + (bdR o ((t.getD i []).drop (q + 1)) (mnR o ((t.getD i []).take q) o.length) + 1) by omega]
      exact h
    · rw [if_neg hb] at h
      rw [if_neg (fun h1 => hb (hiff.2 (Or.inr h1)))]
      refine ih (q + 1) c (by omega) (Or.inl (by omega)) (by omega) ?_
      rw [htk, mnR_snoc, if_neg hb]
      exact h
theorem bound_0 (o : List Int) (ho : o.length ≤ 1048576) (t : List (List Int)) (hl : low t) : ∀ d i (c : Nat), i + d = t.length → c ≤ 4 * i → Ev (fun k => spec_l6Bound.l0 k o (c : Int) (i : Int) t) ((c + bd o (t.drop i) : Nat) : Int) := by
  intro d
  induction d with
  | zero =>
    intro i c hi hc
    refine Ev.step (fun k => by simp only [spec_l6Bound.l0]; rfl) (ev_neg (by omega) (ev_const ?_))
    rw [List.drop_of_length_le (by omega)]
    rfl
  | succ d ih =>
    intro i c hi hc
    have hlt : i < t.length := by omega
    have h6 := hl.2.1
    have h4 : (t.getD i []).length ≤ 4 := by rw [getD_at _ _ _ hlt]; exact hl.2.2 _ (List.getElem_mem hlt)
    refine Ev.step (fun k => by simp only [spec_l6Bound.l0]; rfl) (ev_pos (by omega) ?_)
    have hr : t.drop i = t.getD i [] :: t.drop (i + 1) := by rw [List.drop_eq_getElem_cons hlt, getD_at _ _ _ hlt]
    rw [hr, bd]
    have hle := bdR_le o (t.getD i []) o.length
    have h1 := ih (i + 1) (c + bdR o (t.getD i []) o.length) (by omega) (by omega)
    refine bound_1 o ho t i hlt h6 h4 _ ((t.getD i []).length - 1) 1 c (Nat.le_refl _) (by omega) (by omega) ?_
    have e : bdR o ((t.getD i []).drop 1) (mnR o ((t.getD i []).take 1) o.length) = bdR o (t.getD i []) o.length := by
      cases hrow : t.getD i [] with
      | nil => rfl
      | cons x l =>
        have := rk_le o x
        show bdR o l (mnR o [x] o.length) = bdR o (x :: l) o.length
        rw [bdR, if_neg (by omega), mnR, if_neg (by omega), mnR]
    rw [e]
    refine ev_eq h1 ?_
    congr 1
    omega
theorem bound_spec (o : List Int) (ho : o.length ≤ 1048576) (t : List (List Int)) (hl : low t) : Ev (fun k => spec_l6Bound.f k t o) ((bd o t : Nat) : Int) := by
  unfold spec_l6Bound.f
  exact ev_eq (bound_0 o ho t hl t.length 0 0 (by omega) (by omega)) (by rw [List.drop_zero, Nat.zero_add])
theorem bd_le (o : List Int) {t : List (List Int)} (hl : low t) : bd o t ≤ 24 := by
  have h : ∀ t : List (List Int), (∀ x, x ∈ t → x.length ≤ 4) → bd o t ≤ 4 * t.length := by
    intro t
    induction t with
    | nil => intro _; exact Nat.zero_le _
    | cons r t ih =>
      intro hx
      have h1 := ih (fun x hx2 => hx x (by simp [hx2]))
      have h2 := bdR_le o r o.length
      have h3 := hx r (by simp)
      rw [bd, List.length_cons]
      omega
  have := h t hl.2.2
  have := hl.2.1
  omega
/-- What the reference's search answers: the plan, or something and false. -/
def ans (r : Option (List Q)) (most : Nat) (o : List Int) (a : List Q × Bool) : Prop := a.1.length ≤ most + o.length ∧ match r with
  | some l => a = (l, true)
  | none => a.2 = false
theorem step_pop {n : Int} {o : List Int} {t : List (List Int)} (h : inv (n :: o) t) {f j : Nat} (hn : atY t n f j) (hj : (t.getD f []).length = j + 1) : stepY t n (-1) = some (mvCut t f) := by
  unfold stepY stepF
  rw [find_at h.2.1 hn]
  dsimp only
  rw [if_neg (by rw [Int.toNat_natCast, hj]; omega), if_pos rfl, Int.toNat_natCast]
theorem step_mv {o : List Int} {t : List (List Int)} (h : inv o t) {f q : Nat} (h0 : 0 < (t.getD f []).length) (hq : q < t.length) : stepY t (mvTop t f) (q : Int) = if q = f ∨ (t.getD q []).length = 4 then none else some (mvTab t f q) := by
  unfold stepY stepF
  rw [find_at h.2.1 (at_top h0)]
  dsimp only
  rw [if_neg (by rw [Int.toNat_natCast]; omega), if_neg (by omega), Int.toNat_natCast, Int.toNat_natCast]
  by_cases e : q = f ∨ (t.getD q []).length = 4
  · rw [if_pos e, if_pos (by rcases e with e | e; exact Or.inr (Or.inl (by omega)); exact Or.inr (Or.inr (by omega)))]
  · rw [if_neg e, if_neg (by rintro (h1 | h1 | h1); exact h1 ⟨by omega, by omega⟩; exact e (Or.inl (by omega)); exact e (Or.inr (by omega)))]
theorem try_spec (o : List Int) (most : Nat) (hm : most ≤ 1000) (ho : o.length ≤ 8) (t : List (List Int)) (hi : inv o t) (f : Nat) (h0 : 0 < (t.getD f []).length)
    (IH : ∀ M, most = M + 1 → ∀ t2, inv o t2 → ∃ a, Ev (fun k => spec_l6Search.f k t2 o (M : Int)) a ∧ ans (ser M o t2) M o a) : ∀ d i, i + d = t.length →
    ∃ a, Ev (fun k => spec_l6Search.l0 k o (most : Int) (mvTop t f) (i : Int) t) a ∧ ans (tryTo (fun t2 => goS most t2 o) t f d i) most o a := by
  have hlo := hi.1
  have h6 := hlo.2.1
  intro d
  induction d with
  | zero =>
    intro i hit
    refine ⟨([], false), Ev.step (fun k => by simp only [spec_l6Search.l0]; rfl) (ev_neg (by omega) (Ev.step (fun k => by simp only [spec_l6Search.j1]; rfl) (ev_neg (by simp) (ev_const rfl)))), by simp, rfl⟩
  | succ d ih =>
    intro i hit
    have hlt : i < t.length := by omega
    by_cases hm0 : most = 0
    · subst hm0
      refine ⟨([], false), Ev.step (fun k => by simp only [spec_l6Search.l0]; rfl) (ev_pos (by omega) (Ev.step (fun k => by simp only [spec_l6Search.j1]; rfl) (ev_neg (by simp) (ev_const rfl)))), by simp, ?_⟩
      have hno : ∀ d i, tryTo (fun t2 => goS 0 t2 o) t f d i = none := by
        intro d
        induction d with
        | zero => intro i; rfl
        | succ d ih2 =>
          intro i
          rw [tryTo]
          split
          · exact ih2 (i + 1)
          · exact ih2 (i + 1)
      rw [hno]
    obtain ⟨M, rfl⟩ : ∃ M, most = M + 1 := ⟨most - 1, by omega⟩
    have hst := step_spec hlo (mvTop t f) (i : Int)
    rw [step_mv hi h0 hlt] at hst
    have hbeg : ∀ a, Ev (fun k => (spec_l6Step.f k t (mvTop t f) (i : Int)).bind fun bt217 => (if bt217.2 = true then ((spec_l6Search.f k bt217.1 o (wrap64 (((M + 1 : Nat) : Int) - 1))).bind fun bt222 => (if bt222.2 = true then ((some (([(⟨mvTop t f, (i : Int)⟩ : Q)] : List Q) : List Q)).bind fun y226 => (if y226.length + bt222.1.length < 8796093022208 then (some ((y226 ++ bt222.1), true)) else (none))) else (spec_l6Search.l0 k o ((M + 1 : Nat) : Int) (mvTop t f) (wrap64 ((i : Int) + 1)) t))) else (spec_l6Search.l0 k o ((M + 1 : Nat) : Int) (mvTop t f) (wrap64 ((i : Int) + 1)) t))) a →
        Ev (fun k => spec_l6Search.l0 k o ((M + 1 : Nat) : Int) (mvTop t f) (i : Int) t) a := fun a h =>
      Ev.step (fun k => by simp only [spec_l6Search.l0]; rfl) (ev_pos (by omega) (Ev.step (fun k => by simp only [spec_l6Search.j1]; rfl) (ev_pos (decide_eq_true (by omega)) h)))
    have hw : wrap64 ((i : Int) + 1) = ((i + 1 : Nat) : Int) := by rw [wr (by omega) (by omega)]; rfl
    have hwm : wrap64 (((M + 1 : Nat) : Int) - 1) = (M : Int) := by rw [wr (by omega) (by omega)]; omega
    rw [hw, hwm] at hbeg
    rw [tryTo]
    by_cases e : i = f ∨ (t.getD i []).length = 4
    · rw [if_pos e] at hst ⊢
      obtain ⟨a, h1, h2⟩ := ih (i + 1) (by omega)
      exact ⟨a, hbeg a (Ev.bind hst (ev_neg (by simp) h1)), h2⟩
    · rw [if_neg e] at hst ⊢
      obtain ⟨b, hb1, hb2⟩ := IH M rfl (mvTab t f i) (hi.mv (fun x => e (Or.inl x)) hlt h0 (fun x => e (Or.inr x)))
      show ∃ a, _ ∧ ans (match ser M o (mvTab t f i) with | some rest => some (⟨mvTop t f, (i : Int)⟩ :: rest) | none => tryTo (fun t2 => goS (M + 1) t2 o) t f d (i + 1)) (M + 1) o a
      obtain ⟨b1, b2⟩ := b
      cases hs : ser M o (mvTab t f i) with
      | some rest =>
        rw [hs] at hb2
        obtain ⟨hb3, hb4⟩ := hb2
        injection hb4 with e1 e2
        subst e1 e2
        refine ⟨(⟨mvTop t f, (i : Int)⟩ :: b1, true), hbeg _ (Ev.bind hst (ev_pos rfl (Ev.bind hb1 (ev_pos rfl (ev_call rfl (ev_pos ?_ (ev_const rfl))))))), ?_, rfl⟩
        · simp only [List.length_singleton]; dsimp only at hb3; omega
        · simp only [List.length_cons]; dsimp only at hb3; omega
      | none =>
        rw [hs] at hb2
        obtain ⟨a, h1, h2⟩ := ih (i + 1) (by omega)
        exact ⟨a, hbeg a (Ev.bind hst (ev_pos rfl (Ev.bind hb1 (ev_neg (by rw [show b2 = false from hb2.2]; simp) h1)))), h2⟩
theorem rd_last (l : List (List Int)) (f : Nat) (h : 0 < (l.getD f []).length) : rd (l.getD f []) (((l.getD f []).length : Int) - 1) = mvTop l f := by
  unfold rd mvTop
  rw [show (((l.getD f []).length : Int) - 1).toNat = (l.getD f []).length - 1 by omega]
theorem search_cons (most : Nat) (hm : most ≤ 1000) (n : Int) (o : List Int) (t : List (List Int)) (ho : (n :: o).length ≤ 8) (hi : inv (n :: o) t)
    (IHo : ∀ t2, inv o t2 → ∃ a, Ev (fun k => spec_l6Search.f k t2 o (most : Int)) a ∧ ans (ser most o t2) most o a)
    (IHm : ∀ M, most = M + 1 → ∀ t2, inv (n :: o) t2 → ∃ a, Ev (fun k => spec_l6Search.f k t2 (n :: o) (M : Int)) a ∧ ans (ser M (n :: o) t2) M (n :: o) a) :
    ∃ a, Ev (fun k => spec_l6Search.f k t (n :: o) (most : Int)) a ∧ ans (ser most (n :: o) t) most (n :: o) a := by
  obtain ⟨f, j, hn, hf⟩ := hi.head
  have hl := at_len hn
  have h6 := hi.1.2.1
  have h4 := row4 hi f
  rw [List.length_cons] at ho
  have hbs := bound_spec (n :: o) (by rw [List.length_cons]; omega) t hi.1
  have hne : ¬ ((n :: o).length : Int) = 0 := by rw [List.length_cons]; omega
  have hpo : 0 < ((n :: o).length : Int) := by rw [List.length_cons]; omega
  have hp1 : 1 ≤ ((n :: o).length : Int) := by rw [List.length_cons]; omega
  by_cases hb : most < bd (n :: o) t
  · refine ⟨([], false), Ev.step (fun k => by simp only [spec_l6Search.f]; rfl) (ev_neg hne (Ev.bind hbs (ev_pos (show ((bd (n :: o) t : Nat) : Int) > (most : Int) by omega) (ev_const rfl)))), by simp, by rw [ser_no hb]⟩
  have hbn : ¬ ((bd (n :: o) t : Nat) : Int) > (most : Int) := by omega
  have hfs := find_spec t n (low_big hi.1).1 (low_big hi.1).2
  rw [hf] at hfs
  have hr : rd_L1 t (f : Int) = t.getD f [] := by rw [rd1_getD, Int.toNat_natCast]
  have hw : wrap64 (((t.getD f []).length : Int) - 1) = ((t.getD f []).length : Int) - 1 := wr (by omega) (by omega)
  have htop := rd_last t f (by omega)
  have hrd : rd (n :: o) 0 = n := rfl
  by_cases hj : (t.getD f []).length = j + 1
  · obtain ⟨a, ha1, ha2⟩ := IHo (mvCut t f) (hi.pop hn hj)
    have hsp := step_spec hi.1 n (-1)
    rw [step_pop hi hn hj] at hsp
    rw [ser_pop hi hn hj (by omega)]
    have hal := ha2.1
    refine ⟨(⟨n, -1⟩ :: a.1, a.2), Ev.step (fun k => by simp only [spec_l6Search.f]; rfl) (ev_neg hne (Ev.bind hbs (ev_neg hbn (ev_pos hpo ?_)))), ?_⟩
    · rw [hrd]
      refine Ev.bind hfs (ev_pos (by omega) (ev_pos (by omega) ?_))
      rw [hr, hw, htop, top_at hn hj]
      refine ev_pos (by omega) (ev_pos (by omega) (ev_pos (by omega) (Ev.bind hsp (ev_pos hp1 (Ev.bind ha1 (ev_call rfl (ev_pos ?_ (ev_const rfl))))))))
      simp only [List.length_singleton]
      omega
    · refine ⟨by simp only [List.length_cons]; omega, ?_⟩
      cases hs : ser most o (mvCut t f) with
      | some l => rw [hs] at ha2; obtain ⟨_, h2⟩ := ha2; rw [h2]; rfl
      | none => rw [hs] at ha2; exact ha2.2
  · rw [ser_try hi hn hj (by omega)]
    obtain ⟨a, h1, h2⟩ := try_spec (n :: o) most hm (by rw [List.length_cons]; omega) t hi f (by omega) IHm t.length 0 (by omega)
    refine ⟨a, Ev.step (fun k => by simp only [spec_l6Search.f]; rfl) (ev_neg hne (Ev.bind hbs (ev_neg hbn (ev_pos hpo ?_)))), h2⟩
    rw [hrd]
    refine Ev.bind hfs (ev_pos (by omega) (ev_pos (by omega) ?_))
    rw [hr, hw, htop]
    exact ev_pos (by omega) (ev_pos (by omega) (ev_neg (by omega) h1))
theorem search_spec : ∀ (most : Nat), most ≤ 1000 → ∀ (o : List Int) (t : List (List Int)), o.length ≤ 8 → inv o t → ∃ a, Ev (fun k => spec_l6Search.f k t o (most : Int)) a ∧ ans (ser most o t) most o a := by
  intro most
  induction most with
  | zero =>
    intro hm o
    induction o with
    | nil =>
      intro t ho hi
      exact ⟨([], true), Ev.step (fun k => by simp only [spec_l6Search.f]; rfl) (ev_pos (c := (([] : List Int).length : Int) = 0) rfl (ev_const rfl)), by simp, by rw [ser_nil]⟩
    | cons n o ih =>
      intro t ho hi
      exact search_cons 0 hm n o t ho hi (fun t2 h2 => ih t2 (by rw [List.length_cons] at ho; omega) h2) (fun M e => by omega)
  | succ most IH =>
    intro hm o
    induction o with
    | nil =>
      intro t ho hi
      exact ⟨([], true), Ev.step (fun k => by simp only [spec_l6Search.f]; rfl) (ev_pos (c := (([] : List Int).length : Int) = 0) rfl (ev_const rfl)), by simp, by rw [ser_nil]⟩
    | cons n o ih =>
      intro t ho hi
      refine search_cons (most + 1) hm n o t ho hi (fun t2 h2 => ih t2 (by rw [List.length_cons] at ho; omega) h2) ?_
      intro M e t2 h2
      obtain rfl : M = most := by omega
      exact IH (by omega) (n :: o) t2 ho h2
end Go.Proofs.YtfcbdfedolnkfaaDoor.UY
namespace Go.Proofs.YtfcbdfedolnkfaaDoor.UY
open Go.RowKit Go.Proofs.YtfcbdfedolnkfaaDoorW.PrintWords Go.Proofs.YtfcbdfedolnkfaaDoorW.PrintMore Go.Proofs.YtfcbdfedolnkfaaDoor.P Go.Proofs.YtfcbdfedolnkfaaDoor.U Go.Proofs.YtfcbdfedolnkfaaDoor.UT Go.Proofs.YtfcbdfedolnkfaaDoor.UQ
set_option linter.unusedVariables false

theorem rank_impl (o : List Int) (n : Int) (ho : o.length ≤ 1048576) : Ev (fun k => rbRank k o n) ((rk o n : Nat) : Int) := by
  unfold rbRank
  refine Ev.bind (idx_ev o n ho) (ev_const ?_)
  by_cases h : n ∈ o
  · rw [show (if o.contains n = true then ((o.idxOf n : Nat) : Int) else -1) = ((o.idxOf n : Nat) : Int) from if_pos (by simpa using h), if_pos (by omega), rk_idx]
  · rw [show (if o.contains n = true then ((o.idxOf n : Nat) : Int) else -1) = -1 from if_neg (by simpa using h), if_neg (by omega), rk_out o n h]
theorem in_impl (o : List Int) (ho : o.length ≤ 1048576) : ∀ (l : List Int) (t c : Nat), c + l.length ≤ 1000 → Ev (fun k => rbIn k o l (t : Int) (c : Int)) ((c + bdR o l t : Nat) : Int)
  | [], t, c, h => ev_const rfl
  | n :: l, t, c, h => by
    rw [List.length_cons] at h
    simp only [rbIn]
    refine Ev.bind (rank_impl o n ho) (ev_pos ⟨by omega, by omega⟩ ?_)
    rw [bdR]
    by_cases hc : t < rk o n
    · rw [if_pos hc]
      refine ev_pos (by omega) (ev_eq (in_impl o ho l t (c + 1) (by omega)) ?_)
      congr 1
      omega
    · rw [if_neg hc]
      exact ev_neg (by omega) (in_impl o ho l (rk o n) c (by omega))
theorem out_impl (o : List Int) (ho : o.length ≤ 1048576) : ∀ (t : List (List Int)) (c : Nat), (∀ x, x ∈ t → x.length ≤ 4) → c + 4 * t.length ≤ 900 → Ev (fun k => rbOut k o t (c : Int)) ((c + bd o t : Nat) : Int)
  | [], c, _, _ => ev_const rfl
  | r :: t, c, hx, h => by
    rw [List.length_cons] at h
    have h4 := hx r (by simp)
    have hb := bdR_le o r o.length
    simp only [rbOut]
    refine (Ev.bind (in_impl o ho r o.length c (by omega)) (ev_eq (out_impl o ho t _ (fun x h => hx x (by simp [h])) (by omega)) ?_))
    rw [bd]
    congr 1
    omega
theorem bound_impl (o : List Int) (ho : o.length ≤ 1048576) (t : List (List Int)) (hl : low t) : Ev (fun k => impl_relocationBound.f k t o) ((bd o t : Nat) : Int) := by
  have := hl.2.1
  unfold impl_relocationBound.f
  exact ev_eq (out_impl o ho t 0 hl.2.2 (by omega)) (by rw [Nat.zero_add])
theorem plNums_of {o : List Int} {t : List (List Int)} (h : inv o t) : plNums t := ⟨h.1.2.1, fun r hr => ⟨h.1.2.2 r hr, fun x hx => h.2.2.2.2 r hr x hx⟩⟩
theorem ser_len {most : Nat} (hm : most ≤ 1000) {o : List Int} {t : List (List Int)} (ho : o.length ≤ 8) (hi : inv o t) {l : List Q} (h : ser most o t = some l) : l.length ≤ most + o.length := by
  obtain ⟨a, _, h1, h2⟩ := search_spec most hm o t ho hi
  rw [h] at h2
  rw [h2] at h1
  exact h1
theorem drop_cons {a : List Int} {e : Nat} (h : e < a.length) : a.drop e = rd a (e : Int) :: a.drop (e + 1) := by
  rw [List.drop_eq_getElem_cons h, rd_i a e h]
/-- What is on top is retrieved. -/
theorem pop_impl (a : List Int) : ∀ (m e : Nat) (t : List (List Int)) (st : List Q), e + m = a.length → inv (a.drop e) t → st.length + m ≤ 900 →
    ∃ (e2 : Nat) (t2 : List (List Int)) (st2 : List Q), Ev (fun k => plPop k a m t e st) (t2, e2, st ++ st2) ∧ e ≤ e2 ∧ e2 ≤ a.length ∧ inv (a.drop e2) t2 ∧ st2.length ≤ m ∧ bd (a.drop e) t = bd (a.drop e2) t2 ∧ (∀ most, bd (a.drop e) t ≤ most → ser most (a.drop e) t = (ser most (a.drop e2) t2).map (st2 ++ ·)) ∧
      (e2 < a.length → ∃ f j : Nat, findR (rd a (e2 : Int)) t2 0 = ((f : Int), (j : Int)) ∧ atY t2 (rd a (e2 : Int)) f j ∧ (t2.getD f []).length ≠ j + 1) := by
  intro m
  induction m with
  | zero =>
    intro e t st he hi hs
    refine ⟨e, t, [], ev_const (by rw [List.append_nil]), Nat.le_refl _, by omega, hi, Nat.le_refl _, rfl, fun most h => ?_, fun h => by omega⟩
    cases ser most (a.drop e) t <;> rfl
  | succ m ih =>
    intro e t st he hi hs
    have hel : e < a.length := by omega
    have hi2 := hi
    rw [drop_cons hel] at hi2
    obtain ⟨f, j, hn, hf⟩ := hi2.head
    have hl := at_len hn
    have hpl := place_impl t (rd a (e : Int)) (low_big hi.1).1 (low_big hi.1).2
    rw [hf] at hpl
    have hbeg : ∀ r, Ev (fun k => if (j : Int) = ((t.getD f []).length : Int) - 1 then plPop k a m (mvCut t f) (e + 1) (st ++ [⟨rd a (e : Int), -1⟩]) else some (t, e, st)) r → Ev (fun k => plPop k a (m + 1) t e st) r := fun r h => by
      simp only [plPop]
      exact (Ev.bind hpl (ev_pos ⟨⟨by omega, by omega, by omega⟩, plNums_of hi, by omega⟩ (by dsimp only; rw [Int.toNat_natCast]; exact h)))
    by_cases hj : (t.getD f []).length = j + 1
    · obtain ⟨e2, t2, st2, h1, h2, h3, h4, h5, h6, h7, h8⟩ := ih (e + 1) (mvCut t f) (st ++ [⟨rd a (e : Int), -1⟩]) (by omega) (hi2.pop hn hj) (by rw [List.length_append, List.length_singleton]; omega)
      have hbt := bd_top hi2 hn hj
      rw [← drop_cons hel] at hbt
      refine ⟨e2, t2, ⟨rd a (e : Int), -1⟩ :: st2, hbeg _ (ev_pos (by omega) (ev_eq h1 (by rw [List.append_assoc]; rfl))), by omega, h3, h4, by rw [List.length_cons]; omega, hbt.trans h6, fun most hm => ?_, h8⟩
      have hsp := ser_pop (most := most) hi2 hn hj (by rw [← drop_cons hel]; exact hm)
      rw [drop_cons hel, hsp, h7 most (by omega)]
      cases ser most (a.drop e2) t2 <;> rfl
    · refine ⟨e, t, [], hbeg _ (ev_neg (by omega) (ev_const (by rw [List.append_nil]))), Nat.le_refl _, by omega, hi, Nat.zero_le _, rfl, fun most h => ?_, fun _ => ⟨f, j, hf, hn, hj⟩⟩
      cases ser most (a.drop e) t <;> rfl
theorem loop_impl (a : List Int) (ha : a.length ≤ 8) (e M : Nat) (hM : M ≤ 90) (t : List (List Int)) (hi : inv (a.drop e) t) (f : Nat) (h0 : 0 < (t.getD f []).length)
    (IH : ∀ t2, inv (a.drop e) t2 → Ev (fun k => plSearch k a (M + 1) t2 e) (ser M (a.drop e) t2)) : ∀ d i, i + d = t.length →
    Ev (fun k => plLoop k (fun t2 => plSearch k a (M + 1) t2 e) t f d i) (tryTo (fun t2 => goS (M + 1) t2 (a.drop e)) t f d i) := by
  intro d
  induction d with
  | zero => intro i hit; exact ev_const rfl
  | succ d ih =>
    intro i hit
    have hlt : i < t.length := by omega
    rw [tryTo]
    simp only [plLoop]
    by_cases c : i = f ∨ (t.getD i []).length = 4
    · rw [if_pos c]
      exact ev_pos c (ih (i + 1) (by omega))
    · rw [if_neg c]
      refine ev_neg c (Ev.bind (own_impl t (low_big hi.1).1 (low_big hi.1).2) ?_)
      refine ev_pos (c := (t.length = t.length ∧ 0 < (t.getD f []).length) ∧ plNums t) ⟨⟨rfl, h0⟩, plNums_of hi⟩ ?_
      have him := hi.mv (fun x => c (Or.inl x)) hlt h0 (fun x => c (Or.inr x))
      refine Ev.bind (IH _ him) ?_
      show Ev _ (match ser M (a.drop e) (mvTab t f i) with | some rest => some ((⟨mvTop t f, (i : Int)⟩ : Q) :: rest) | none => tryTo (fun t2 => goS (M + 1) t2 (a.drop e)) t f d (i + 1))
      cases hs : ser M (a.drop e) (mvTab t f i) with
      | some rest =>
        have hle := ser_len (by omega) (by rw [List.length_drop]; omega) him hs
        rw [List.length_drop] at hle
        exact ev_pos (by omega) (ev_const rfl)
      | none => exact ih (i + 1) (by omega)
theorem search_impl (a : List Int) (ha : a.length ≤ 8) : ∀ (most : Nat), most ≤ 90 → ∀ (e : Nat) (t : List (List Int)), e ≤ a.length → inv (a.drop e) t → Ev (fun k => plSearch k a (most + 1) t e) (ser most (a.drop e) t) := by
  intro most
  induction most using Nat.strongRecOn with
  | ind most IH =>
    intro hm e t he hi
    obtain ⟨e2, t2, st2, h1, h2, h3, h4, h5, h6, h7, h8⟩ := pop_impl a (a.length - e) e t [] (by omega) hi (by simp; omega)
    rw [List.nil_append] at h1
    simp only [plSearch, plMid]
    refine Ev.bind h1 ?_
    unfold plAfter
    dsimp only
    by_cases hee : e2 = a.length
    · refine ev_pos hee (ev_const ?_)
      have hd : a.drop e2 = [] := List.drop_of_length_le (by omega)
      have hb := h7 most
      rw [hd, ser_nil] at hb
      rw [hd] at h6
      have h0 : bd [] t2 ≤ 0 := by
        have h9 := (ser_cap 0 [] t2 [] (hd ▸ h4) (ser_nil 0 t2)).1.1
        exact h9
      rw [hb (by omega)]
      show some (some st2) = some (some (st2 ++ []))
      rw [List.append_nil]
    refine ev_neg hee (Ev.bind (bound_impl (a.drop e2) (by rw [List.length_drop]; omega) t2 h4.1) ?_)
    by_cases hb : most < bd (a.drop e2) t2
    · refine ev_pos (by omega) (ev_const ?_)
      have hel : e < a.length := by omega
      rw [← h6] at hb
      rw [drop_cons hel] at hb ⊢
      rw [ser_no hb]
    refine ev_neg (by omega) ?_
    obtain ⟨f, j, hf, hn, hj⟩ := h8 (by omega)
    have hl := at_len hn
    have h42 := h4
    rw [drop_cons (show e2 < a.length by omega)] at h42
    have hpos := bd_pos h42 hn hj
    rw [← drop_cons (show e2 < a.length by omega)] at hpos
    obtain ⟨M, rfl⟩ : ∃ M, most = M + 1 := ⟨most - 1, by omega⟩
    refine ev_pos ⟨⟨plNums_of h4, by omega⟩, by omega⟩ ?_
    rw [h7 (M + 1) (by omega)]
    have hst := ser_try (most := M + 1) h42 hn hj (by rw [← drop_cons (show e2 < a.length by omega)]; omega)
    rw [← drop_cons (show e2 < a.length by omega)] at hst
    rw [hst]
    have hpl := place_impl t2 (rd a (e2 : Int)) (low_big h4.1).1 (low_big h4.1).2
    rw [hf] at hpl
    have hlp := loop_impl a ha e2 M (by omega) t2 h4 f (by omega) (fun t3 h => IH M (by omega) (by omega) e2 t3 h3 h) t2.length 0 (by omega)
    refine Ev.bind (a := tryTo (fun t2 => goS (M + 1) t2 (a.drop e2)) t2 f t2.length 0) ?_ ?_
    · unfold plCont
      refine Ev.bind hpl (ev_pos ⟨by omega, by omega⟩ ?_)
      rw [Int.toNat_natCast]
      exact hlp
    · cases tryTo (fun t2 => goS (M + 1) t2 (a.drop e2)) t2 f t2.length 0 <;> exact ev_const rfl
/-- The plan with the fewest relocations, as both answer it. -/
def bestA (r : Option (List Q)) : List Q × Bool := match r with
  | some l => (l, true)
  | none => ([], false)
theorem bsGo_ev (a : List Int) (ha : a.length ≤ 8) (t : List (List Int)) (hi : inv a t) : ∀ j d, d + j ≤ 30 → Ev (fun k => bsGo k a t j d) (bestA (serF a t j d)) := by
  intro j
  induction j with
  | zero => intro d _; exact ev_const rfl
  | succ j ih =>
    intro d hd
    have h1 := search_impl a ha d (by omega) 0 t (Nat.zero_le _) (by rw [List.drop_zero]; exact hi)
    rw [List.drop_zero] at h1
    simp only [bsGo]
    refine (Ev.bind (own_impl t (low_big hi.1).1 (low_big hi.1).2) (ev_pos rfl (Ev.bind h1 ?_)))
    rw [serF]
    cases ser d a t with
    | some l => exact ev_const rfl
    | none => exact ih (d + 1) (by omega)
theorem best_l (a : List Int) (ha : a.length ≤ 8) (t : List (List Int)) (hi : inv a t) : ∀ j (d : Nat), d + j = 25 ∨ j = 0 ∧ 25 ≤ d ∧ d ≤ 30 → Ev (fun k => spec_l6Best.l0 k a (d : Int) t) (bestA (serF a t j d)) := by
  intro j
  induction j with
  | zero =>
    intro d hd
    exact Ev.step (fun k => by simp only [spec_l6Best.l0]; rfl) (ev_neg (by omega) (ev_const rfl))
  | succ j ih =>
    intro d hd
    obtain ⟨b, hb, hb2⟩ := search_spec d (by omega) a t ha hi
    refine Ev.step (fun k => by simp only [spec_l6Best.l0]; rfl) (ev_pos (by omega) (Ev.bind hb ?_))
    rw [serF]
    cases hs : ser d a t with
    | some l =>
      rw [hs] at hb2
      obtain ⟨_, h2⟩ := hb2
      rw [h2]
      exact ev_pos rfl (ev_const rfl)
    | none =>
      rw [hs] at hb2
      refine ev_neg (by rw [show b.2 = false from hb2.2]; simp) ?_
      rw [show wrap64 ((d : Int) + 1) = ((d + 1 : Nat) : Int) from by rw [wr (by omega) (by omega)]; rfl]
      exact ih (d + 1) (by omega)
theorem inv_ok {l : List (List Int)} {a : List Int} (h : okOrd l a = true) : inv a l ∧ a.length ≤ 8 := by
  unfold okOrd at h
  simp only [Bool.and_eq_true, decide_eq_true_eq] at h
  obtain ⟨hy, ho, h8⟩ := h
  obtain ⟨h1, h2⟩ := ords_in l a [] ho
  refine ⟨⟨low_ok hy, once_ok hy, fun n hn => ?_, h2, fun r hr x hx => ?_⟩, by omega⟩
  · have h3 := (h1 n hn).1
    rw [← findR_in n l 0, decide_eq_true_eq] at h3
    exact inYard_at (by omega)
  · have h3 := ((okYard_mem hy).2 r hr).2 x hx
    omega
theorem best_both {l : List (List Int)} {a : List Int} (h : okOrd l a = true) : ∃ X : List Q × Bool, Ev (fun k => spec_l6Best.f k l a) X ∧ Ev (fun k => impl_bestSteps.f k l a) X ∧ X.1.length ≤ 100 ∧ (X.2 = false → X.1 = []) := by
  obtain ⟨hv, h8⟩ := inv_ok h
  have hb24 := bd_le a hv.1
  have ha : a.length ≤ 1048576 := by omega
  refine ⟨bestA (serF a l (25 - bd a l) (bd a l)), ?_, ?_, ?_, ?_⟩
  · unfold spec_l6Best.f
    exact Ev.bind (bound_spec a ha l hv.1) (best_l a h8 l hv _ _ (by omega))
  · unfold impl_bestSteps.f
    have hl := hv.1.1
    refine ev_pos ⟨by omega, h8⟩ (Ev.bind (bound_impl a ha l hv.1) (ev_pos (by omega) ?_))
    rw [Int.toNat_natCast]
    have e : serF a l (25 - bd a l) (bd a l) = serF a l (3 * a.length + 1 - bd a l) (bd a l) := by
      have h1 := serF_lim hv (3 * a.length + 1 - bd a l) (25 - bd a l - (3 * a.length + 1 - bd a l)) (by omega)
      rw [show 3 * a.length + 1 - bd a l + (25 - bd a l - (3 * a.length + 1 - bd a l)) = 25 - bd a l by omega] at h1
      exact h1
    rw [e]
    exact bsGo_ev a h8 l hv _ _ (by omega)
  · have hF : ∀ d m, m + d ≤ 30 → (bestA (serF a l d m)).1.length ≤ 100 := by
      intro d
      induction d with
      | zero => intro m _; exact Nat.zero_le _
      | succ d ih =>
        intro m hm
        rw [serF]
        cases hs : ser m a l with
        | some x =>
          have := ser_len (by omega) h8 hv hs
          show x.length ≤ 100
          omega
        | none => exact ih (m + 1) (by omega)
    exact hF (25 - bd a l) (bd a l) (by omega)
  · cases serF a l (25 - bd a l) (bd a l) with
    | some x => intro h; cases h
    | none => intro _; rfl
theorem best_same (l : List (List Int)) (hn : l.length ≤ 1048576) (hx : ∀ x, x ∈ l → x.length ≤ 1048576) (a : List Int) (ha : a.length ≤ 1048576) :
    ∃ (r : List Q) (b : Bool), Ev (fun k => spec_BestSteps.f k l a) (r, b) ∧ Ev (fun k => impl_BestSteps.f k l a) (r, b) ∧ r.length ≤ 1048576 := by
  have hs := ordA_spec l hn hx a ha
  have hi := ordA_impl l hn hx a ha
  unfold spec_BestSteps.f impl_BestSteps.f
  cases h : okOrd l a
  · rw [h] at hs hi
    exact ⟨[], false, Ev.bind hs (ev_neg (by simp) (ev_const rfl)), Ev.bind hi (ev_neg (by simp) (ev_const rfl)), by simp⟩
  · rw [h] at hs hi
    obtain ⟨X, h1, h2, h3, _⟩ := best_both h
    exact ⟨X.1, X.2, Ev.bind hs (ev_pos rfl (Ev.bind h1 (ev_const rfl))), Ev.bind hi (ev_pos rfl (Ev.bind h2 (ev_const rfl))), by omega⟩
end Go.Proofs.YtfcbdfedolnkfaaDoor.UY
